/- Plain laws of the printed functions. No conditions but those in each statement. -/
import Derived.Test.YtkopnopjbaejjaaEv4
import Derived.Test.YtkopnopjbaejjaaG5
set_option linter.unusedVariables false
set_option linter.unusedSimpArgs false
namespace Go.Proofs.Ytkopnopjbaejjaa.Ev
open Go.RowKit
theorem eqStringS_ok {k : Nat} (hk : KK ≤ k) {a b : List (List UInt8)} (ha : a.length < 4611686018427387904) : laws_eqStringS k a b = some (decide (a = b)) := by
  unfold laws_eqStringS
  by_cases hl : a.length = b.length
  · rw [if_neg (by simp [hl])]
    refine loop_eq (L := fun n i => laws_eqStringS_l0 k n a b i (some true)) a b hl ?_ ?_ (n := k) (by have := KK_def; omega)
    · intro n i x y hx hy hlt
      have hw := w_succ (i := i) (by omega)
      by_cases e : x = y <;> simp [laws_eqStringS_l0, hlt, hx, hy, hw, e]
    · intro n
      simp [laws_eqStringS_l0]
  · have h2 : a ≠ b := fun e => hl (by rw [e])
    have h3 : ¬ (a.length : Int) = b.length := by omega
    simp [h3, h2]
/-- A mark is a text. -/
theorem markText_ok {k : Nat} (hk : KK ≤ k) {n : Int} (h : n ≤ 9223372036854775807) : ∃ t, laws_markText k n = some t := by
  unfold laws_markText
  by_cases h0 : n ≤ 0
  · exact ⟨[109, 48], by simp [h0]⟩
  · simp only [decide_eq_true_eq, h0, if_false]
    have key : ∀ (m : Nat) (n : Int) (out : List UInt8), 0 ≤ n → n < 10 ^ m → n ≤ 9223372036854775807 → out.length + m ≤ 100 → ∀ q, m < q → ∃ t, laws_markText_l0 k q n out (fun out_1 => (if [109].length + out_1.length ≤ 9223372036854775807 then some ([109] ++ out_1) else none)) = some t := by
      intro m
      induction m with
      | zero =>
        intro n out h1 h2 h3 h4 q hq
        obtain ⟨q, rfl⟩ : ∃ p, q = p + 1 := ⟨q - 1, by omega⟩
        have : ¬ 0 < n := by simp at h2; omega
        have h5 : 1 + out.length ≤ 9223372036854775807 := by omega
        exact ⟨[109] ++ out, by simp only [laws_markText_l0, decide_eq_true_eq, this, if_false, List.length_singleton, h5, if_true]⟩
      | succ m ih =>
        intro n out h1 h2 h3 h4 q hq
        obtain ⟨q, rfl⟩ : ∃ p, q = p + 1 := ⟨q - 1, by omega⟩
        by_cases hn : 0 < n
        · have hd : Int.tdiv n 10 = n / 10 := Int.tdiv_eq_ediv_of_nonneg h1
          have hw : w_i64 (Int.tdiv n 10) = n / 10 := by rw [hd, w_id (by omega) (by omega)]
          have h5 : 1 + out.length ≤ 9223372036854775807 := by omega
          have h6 : n / 10 < 10 ^ m := by
            rw [Int.pow_succ] at h2
            omega
          obtain ⟨t, ht⟩ := ih (n / 10) ((to_S [(w_u8 ((w_i64 (48 + (Int.tmod n 10)))))]) ++ out) (by omega) h6 (by omega) (by simp; omega) q (by omega)
          refine ⟨t, ?_⟩
          simp only [laws_markText_l0, decide_eq_true_eq, hn, if_true, hw]
          rw [if_pos (by simp; omega)]
          exact ht
        · have h5 : 1 + out.length ≤ 9223372036854775807 := by omega
          exact ⟨[109] ++ out, by simp only [laws_markText_l0, decide_eq_true_eq, hn, if_false, List.length_singleton, h5, if_true]⟩
    exact key 20 n [] (by omega) (by omega) h (by simp) k (by have := KK_def; omega)
/-- What was marked is held. -/
theorem markStringS_ok {k : Nat} (hk : KK ≤ k) {a : List (List UInt8)} {m : Int} (h0 : 0 ≤ m) (h1 : m ≤ 1000000000000) (ha : a.length ≤ 1000000000000) :
    ∃ q, laws_markStringS_o k m a = some ((m + a.length, ()), (q, ()), ()) ∧ laws_heldStringS k q m = some (m + a.length) := by
  have mt : ∀ i : Nat, i ≤ 2000000000000 → ∃ t, laws_markText k (m + i) = some t := fun i hi => markText_ok hk (by omega)
  let T : Nat → List UInt8 := fun i => (laws_markText k (m + i)).getD []
  have hT : ∀ i : Nat, i ≤ 2000000000000 → laws_markText k (m + i) = some (T i) := fun i hi => by
    obtain ⟨t, ht⟩ := mt i hi
    show _ = some ((laws_markText k (m + i)).getD [])
    rw [ht]; rfl
  refine ⟨(List.range a.length).map T, ?_, ?_⟩
  · unfold laws_markStringS_o
    have := loop_list (α := Nat) (A := List (List UInt8)) (L := fun n i q => laws_markStringS_o_l0 k n (m + i) i q fun k_6 q_7 => some ((k_6, ()), (q_7, ()), ()))
      (I := fun pre q => q.length = a.length ∧ q.take pre.length = (List.range pre.length).map T) (G := fun _ _ => some ((m + a.length, ()), ((List.range a.length).map T, ()), ())) (List.range a.length) ?_ ?_ k (by have := KK_def; simp; omega) a ⟨rfl, by simp⟩
    · simpa using this
    · intro n pre x post q hx hq ih hg hlt
      rw [List.length_range] at hlt
      have hw := w_succ (i := pre.length) (by omega)
      have hl : pre.length < q.length := by omega
      have hm : w_i64 (m + (pre.length : Int) + 1) = m + ((pre.length + 1 : Nat) : Int) := by rw [w_id (by omega) (by omega)]; omega
      have hlt' : (pre.length : Int) < (q.length : Int) := by omega
      simp only [laws_markStringS_o_l0, hlt', decide_true, if_true, hT pre.length (by omega), Option.bind_some, Int.natCast_nonneg, Int.toNat_natCast, hl, and_self, List.getElem?_eq_getElem hl, hm, hw]
      refine ih _ ⟨by rw [List.length_set]; exact hq.1, ?_⟩
      rw [List.length_append, List.length_singleton, List.take_succ_eq_append_getElem (by simpa using hl), List.getElem_set_self, List.take_set_of_le (Nat.le_refl _), hq.2, List.range_succ]
      simp
    · intro n q hq
      have : ¬ ((List.range a.length).length : Int) < (q.length : Int) := by rw [hq.1]; simp
      have h2 := hq.2
      rw [List.length_range, ← hq.1, List.take_length, hq.1] at h2
      simp only [laws_markStringS_o_l0, this, decide_false, Bool.false_eq_true, if_false]
      simp [h2]
  · unfold laws_heldStringS
    have := loop_list (α := List UInt8) (A := Unit) (L := fun n i _ => laws_heldStringS_l0 k n ((List.range a.length).map T) (m + i) i fun k_3 => some k_3) (I := fun _ _ => True) (G := fun _ _ => some (m + a.length)) ((List.range a.length).map T) ?_ ?_ k (by have := KK_def; simp; omega) () trivial
    · simpa using this
    · intro n pre x post _ hx _ ih hg hlt
      rw [List.length_map, List.length_range] at hlt
      have hw := w_succ (i := pre.length) (by omega)
      have hm : w_i64 (m + (pre.length : Int) + 1) = m + ((pre.length + 1 : Nat) : Int) := by rw [w_id (by omega) (by omega)]; omega
      have hxT : x = T pre.length := by
        rw [List.getElem?_map, List.getElem?_range (by omega)] at hg
        simpa using hg.symm
      have hlt' : (pre.length : Int) < (((List.range a.length).map T).length : Int) := by simp; omega
      simp only [laws_heldStringS_l0, hlt', decide_true, if_true, Int.natCast_nonneg, Int.toNat_natCast, hg, Option.bind_some, hT pre.length (by omega), hxT, Bool.not_true, Bool.false_eq_true, if_false, hm, hw]
      exact ih () trivial
    · intro n _ _
      simp [laws_heldStringS_l0]
abbrev Bar := Int × Int × Int
theorem eqBarS_ok {k : Nat} (hk : KK ≤ k) {a b : List Bar} (ha : a.length < 4611686018427387904) : laws_eqBarS k a b = some (decide (a = b)) := by
  unfold laws_eqBarS
  by_cases hl : a.length = b.length
  · rw [if_neg (by simp [hl])]
    refine loop_eq (L := fun n i => laws_eqBarS_l0 k n a b i (some true)) a b hl ?_ ?_ (n := k) (by have := KK_def; omega)
    · intro n i x y hx hy hlt
      have hw := w_succ (i := i) (by omega)
      obtain ⟨x1, x2, x3⟩ := x
      obtain ⟨y1, y2, y3⟩ := y
      simp only [laws_eqBarS_l0, laws_eqBar, hlt, decide_true, if_true, Int.natCast_nonneg, Int.toNat_natCast, hx, hy, Option.bind_some, hw, Prod.mk.injEq]
      by_cases e1 : x1 = y1 <;> by_cases e2 : x2 = y2 <;> by_cases e3 : x3 = y3 <;> simp [e1, e2, e3]
    · intro n
      simp [laws_eqBarS_l0]
  · have h2 : a ≠ b := fun e => hl (by rw [e])
    have h3 : ¬ (a.length : Int) = b.length := by omega
    simp [h3, h2]
theorem toBarS_ok {k : Nat} (hk : KK ≤ k) {a : List Bar} (ha : a.length ≤ 1048576) : laws_toBarS k a = some a := by
  unfold laws_toBarS
  have hL := LIM_def
  rw [if_pos ⟨by omega, Int.le_refl _, by omega⟩]
  refine loop_copy (L := fun n i q => laws_toBarS_l0 k n a i q fun q_5 => some q_5) (e := fun q => some q) a _ (by simp) ?_ ?_ (n := k) (by have := KK_def; omega)
  · intro n i x q hx hlt hq
    have hw := w_succ (i := i) (by omega)
    have hi : i < q.length := by omega
    simp [laws_toBarS_l0, laws_toBar, hlt, hx, hw, hi]
  · intro n q
    simp [laws_toBarS_l0]
theorem szBarS_ok {a : List Bar} {left : Int} (h0 : 0 ≤ left) (h1 : left ≤ 1048576) (ha : a.length ≤ 140737488355328) : ∃ r, laws_szBarS a left = some r ∧ (r < 0 ∨ (0 ≤ r ∧ r ≤ left ∧ a.length ≤ 1048576)) := by
  unfold laws_szBarS
  rw [w_id (by omega) (by omega)]
  by_cases h : left - (a.length : Int) < 0
  · exact ⟨-1, by simp [h], .inl (by omega)⟩
  · exact ⟨_, by rw [decide_eq_false h, if_neg (by simp)], .inr ⟨by omega, by omega, by omega⟩⟩
theorem markBarS_ok {k : Nat} (hk : KK ≤ k) {a : List Bar} {m : Int} (h0 : 0 ≤ m) (h1 : m ≤ 1000000000000) (ha : a.length ≤ 1000000000000) : ∃ q, laws_markBarS_o k m a = some ((m + 3 * (a.length : Int), ()), (q, ()), ()) := by
  unfold laws_markBarS_o
  have := loop_list (α := Nat) (A := List Bar) (L := fun n i q => laws_markBarS_o_l0 k n (m + 3 * i) i q fun k_9 q_10 => some ((k_9, ()), (q_10, ()), ()))
    (I := fun pre q => q.length = a.length ∧ ∀ t, pre.length ≤ t → q[t]? = a[t]?) (G := fun post q => (some ((m + 3 * (a.length : Int), ()), (q.mapIdx fun i x => if i < a.length - post.length then x else (m + 3 * i, m + 3 * i + 1, m + 3 * i + 2), ()), ()) : Option ((Int × Unit) × (List Bar × Unit) × Unit))) (List.range a.length) ?_ ?_ k (by have := KK_def; simp; omega) a ⟨rfl, fun _ _ => rfl⟩
  · refine ⟨_, Eq.trans ?_ this⟩
    simp
  · intro n pre x post q hx hq ih hg hlt
    rw [List.length_range] at hlt
    have hlen : a.length = pre.length + (post.length + 1) := by
      have := congrArg List.length hx
      simpa using this
    have hw := w_succ (i := pre.length) (by omega)
    have hl : pre.length < q.length := by omega
    have e1 : w_i64 (m + 3 * (pre.length : Int) + 1) = m + 3 * (pre.length : Int) + 1 := w_id (by omega) (by omega)
    have e2 : w_i64 (m + 3 * (pre.length : Int) + 1 + 1) = m + 3 * (pre.length : Int) + 2 := by rw [w_id (by omega) (by omega)]; omega
    have e3 : w_i64 (m + 3 * (pre.length : Int) + 2 + 1) = m + 3 * ((pre.length + 1 : Nat) : Int) := by rw [w_id (by omega) (by omega)]; omega
    have hlt' : (pre.length : Int) < (q.length : Int) := by omega
    simp only [laws_markBarS_o_l0, hlt', decide_true, if_true, e1, e2, e3, Option.bind_some, Int.natCast_nonneg, Int.toNat_natCast, hl, and_self, List.getElem?_eq_getElem hl, List.length_set, List.getElem?_set_self, List.set_set, hw]
    have ih := ih (q.set pre.length (m + 3 * (pre.length : Int), m + 3 * (pre.length : Int) + 1, m + 3 * (pre.length : Int) + 2)) ⟨by rw [List.length_set]; exact hq.1, fun t ht => by
      rw [List.length_append, List.length_singleton] at ht
      rw [List.getElem?_set_ne (by omega)]; exact hq.2 t (by omega)⟩
    rw [ih]
    congr 4
    apply List.ext_getElem?
    intro t
    rw [List.getElem?_mapIdx, List.getElem?_mapIdx]
    by_cases ht : pre.length = t
    · subst ht
      rw [List.getElem?_set_self hl, List.getElem?_eq_getElem hl]
      simp only [Option.map_some, List.length_cons]
      rw [if_pos (by omega), if_neg (by omega)]
    · rw [List.getElem?_set_ne ht, List.length_cons]
      cases q[t]? with
      | none => rfl
      | some y =>
        simp only [Option.map_some]
        by_cases h : t < pre.length
        · rw [if_pos (by omega), if_pos (by omega)]
        · rw [if_neg (by omega), if_neg (by omega)]
  · intro n q hq
    have this : ¬ (a.length : Int) < (q.length : Int) := by rw [hq.1]; simp
    have hm : (q.mapIdx fun i x => if i < a.length - ([] : List Nat).length then x else (m + 3 * (i : Int), m + 3 * (i : Int) + 1, m + 3 * (i : Int) + 2)) = q := by
      apply List.ext_getElem?
      intro t
      rw [List.getElem?_mapIdx]
      cases hqt : q[t]? with
      | none => rfl
      | some y =>
        have hlt := (List.getElem?_eq_some_iff.1 hqt).1
        rw [hq.1] at hlt
        simp [hlt]
    rw [hm, List.length_range]
    simp only [laws_markBarS_o_l0, this, decide_false, Bool.false_eq_true, if_false]
theorem within_ok (n a b : Int) : impl_within n a b = some (decide (a ≤ n ∧ n ≤ b)) := by
  unfold impl_within
  by_cases h : a ≤ n <;> simp [h]
theorem l00In_ok (n a b : Int) : spec_l00In n a b = some (decide (a ≤ n ∧ n ≤ b)) := by
  unfold spec_l00In
  by_cases h : a ≤ n <;> simp [h]
/-- Rounds by number, with a condition that held before. -/
theorem loop_allN' {R : Type} {L : Nat → Int → R} {b : Nat} {p : Nat → Bool} {r e : R}
    (h1 : ∀ n (i : Nat), i < b → (∀ j, j < i → p j = true) → L (n + 1) (i : Int) = if p i = true then L n ((i + 1 : Nat) : Int) else r) (h2 : ∀ n, L (n + 1) (b : Int) = e) {n : Nat} (hn : b < n) : L n 0 = if (List.range b).all p = true then e else r := by
  refine loop_list (α := Nat) (A := Unit) (L := fun n i _ => L n i) (I := fun pre _ => ∀ j ∈ pre, p j = true) (G := fun l _ => if l.all p = true then e else r) (List.range b) ?_ ?_ n (by simpa using hn) () (by simp)
  · intro n pre x post _ hx hI ih hg hlt
    rw [List.length_range] at hlt
    have hxi : x = pre.length := by
      rw [List.getElem?_range (by omega)] at hg
      simpa using hg.symm
    subst hxi
    have hpre : pre = List.range pre.length := by
      have := congrArg (List.take pre.length) hx
      rw [List.take_left, List.take_range] at this
      rw [Nat.min_eq_left (by omega)] at this
      exact this.symm
    rw [h1 n pre.length (by omega) (fun j hj => hI j (by rw [hpre]; simpa using hj))]
    by_cases hp : p pre.length = true
    · rw [if_pos hp, ih () (fun j hj => by
        rcases List.mem_append.1 hj with hj | hj
        · exact hI j hj
        · rw [List.mem_singleton.1 hj]; exact hp)]
      simp [hp]
    · rw [if_neg hp]; simp [hp]
  · intro n _ _
    simpa using h2 n
def okBar (x : Bar) : Bool := decide (0 ≤ x.1 ∧ x.1 ≤ 3) && (decide (0 ≤ x.2.1 ∧ x.2.1 ≤ 1000) && (decide (x.2.2 = -1) || decide (x.2.1 < x.2.2 ∧ x.2.2 ≤ 1000)))
def bbef (a b : Bar) : Bool := if a.1 ≠ b.1 then decide (a.1 < b.1) else if a.2.1 ≠ b.2.1 then decide (a.2.1 < b.2.1) else if a.2.2 ≠ -1 then (if b.2.2 = -1 then true else decide (a.2.2 < b.2.2)) else false
def cmpI (x y : Int) : Int := if x < y then -1 else if y < x then 1 else 0
theorem bbef_ok (a b : Bar) : spec_l21Before a b = some (bbef a b) := by
  unfold spec_l21Before bbef
  by_cases h1 : a.1 = b.1 <;> by_cases h2 : a.2.1 = b.2.1 <;> by_cases h3 : a.2.2 = -1 <;> by_cases h4 : b.2.2 = -1 <;> simp [h1, h2, h3, h4]
theorem cmpInt64_ok (x y : Int) : cmp_Compare_int64 x y = some (cmpI x y) := by
  unfold cmp_Compare_int64 cmp_isNaN_int64 cmpI
  by_cases h1 : x < y <;> by_cases h2 : y < x <;> simp [h1, h2]
theorem cmpOr3_ok {k : Nat} (hk : KK ≤ k) (a b c : Int) : cmp_Or_int k [a, b, c] = some (if a = 0 then (if b = 0 then c else b) else a) := by
  have hK := KK_def
  obtain ⟨m, rfl⟩ : ∃ m, k = m + 4 := ⟨k - 4, by omega⟩
  generalize hf : m + 4 = k
  have hw0 : w_i64 1 = 1 := w_id (by omega) (by omega)
  have hw1 : w_i64 2 = 2 := w_id (by omega) (by omega)
  have hw2 : w_i64 3 = 3 := w_id (by omega) (by omega)
  show cmp_Or_int_l0 k k 0 [a, b, c] 3 0 (fun zero_2 => some zero_2) = _
  conv => lhs; arg 2; rw [← hf]
  by_cases h : a = 0
  · by_cases h' : b = 0
    · by_cases h'' : c = 0
      · subst h; subst h'; subst h''; simp [cmp_Or_int_l0, hw0, hw1, hw2]
      · subst h; subst h'; simp [cmp_Or_int_l0, hw0, hw1, hw2, h'']
    · subst h; simp [cmp_Or_int_l0, hw0, hw1, h']
  · simp [cmp_Or_int_l0, h]
def endI (x : Bar) : Int := if x.2.2 = -1 then 1001 else x.2.2
def cmpBar (a b : Bar) : Int := if cmpI a.1 b.1 = 0 then (if cmpI a.2.1 b.2.1 = 0 then cmpI (endI a) (endI b) else cmpI a.2.1 b.2.1) else cmpI a.1 b.1
theorem compareBars_ok {k : Nat} (hk : KK ≤ k) (a b : Bar) : impl_compareBars k a b = some (cmpBar a b) := by
  have e : ∀ x : Bar, impl_end x = some (endI x) := by
    intro x; unfold impl_end endI
    by_cases h : x.2.2 = -1 <;> simp [h]
  unfold impl_compareBars cmpBar
  simp only [cmpInt64_ok, Option.bind_some, cmpOr3_ok hk, e]
theorem cmpBar_bef {a b : Bar} (ha : okBar a = true) (hb : okBar b = true) : decide (0 < cmpBar a b) = bbef b a := by
  unfold okBar at ha hb
  simp only [Bool.and_eq_true, Bool.or_eq_true, decide_eq_true_eq] at ha hb
  unfold cmpBar bbef cmpI endI
  by_cases h1 : a.1 = b.1
  · by_cases h2 : a.2.1 = b.2.1
    · by_cases h3 : a.2.2 = -1 <;> by_cases h4 : b.2.2 = -1
      · simp [h1, h2, h3, h4]
      · have : b.2.2 < 1001 := by omega
        have h5 : ¬ 1001 < b.2.2 := by omega
        simp [h1, h2, h3, h4, h5, this]
      · have h5 : a.2.2 < 1001 := by omega
        have : ¬ 1001 < a.2.2 := by omega
        simp [h1, h2, h3, h4, h5, this]
      · by_cases h5 : a.2.2 < b.2.2
        · have h6 : ¬ b.2.2 < a.2.2 := by omega
          simp [h1, h2, h3, h4, h5, h6]
        · by_cases h6 : b.2.2 < a.2.2 <;> simp [h1, h2, h3, h4, h5, h6]
    · have h2' : ¬ b.2.1 = a.2.1 := fun e => h2 e.symm
      by_cases h5 : a.2.1 < b.2.1
      · have h6 : ¬ b.2.1 < a.2.1 := by omega
        simp [h1, h2, h2', h5, h6]
      · have h6 : b.2.1 < a.2.1 := by omega
        simp [h1, h2, h2', h5, h6]
  · have h1' : ¬ b.1 = a.1 := fun e => h1 e.symm
    by_cases h5 : a.1 < b.1
    · have h6 : ¬ b.1 < a.1 := by omega
      simp [h1, h1', h5, h6]
    · have h6 : b.1 < a.1 := by omega
      simp [h1, h1', h5, h6]
def barAt (l : List Bar) (i : Nat) : Bool := match l[i]? with
  | none => false
  | some y => okBar y && (if 0 < i then (match l[i - 1]? with | some z => !bbef y z | none => false) else true)
def okBars (l : List Bar) : Bool := (List.range l.length).all (barAt l) && decide (l.length ≤ 24)
theorem l21List_ok {k : Nat} (hk : KK ≤ k) {a : List Bar} (ha : a.length ≤ 1048576) : spec_l21List k a = some (okBars a) := by
  have hK := KK_def
  unfold spec_l21List okBars
  have := loop_allN (L := fun n i => spec_l21List_l0 k n a i (fun list_9 => some (decide ((List.length list_9 : Int) ≤ 24)))) (b := a.length) (p := barAt a) (r := some false) (e := some (decide (a.length ≤ 24))) ?_ ?_ (n := k) (by omega)
  · refine Eq.trans this ?_
    cases (List.range a.length).all (barAt a) <;> simp
  · intro n i hi
    have hlt : (i : Int) < (a.length : Int) := by omega
    have hw := w_succ (i := i) (by omega)
    have hg : a[i]? = some a[i] := List.getElem?_eq_getElem hi
    have tail : (if decide (0 < (i : Int)) = true then (if 0 ≤ (w_i64 ((i : Int) - 1)) then (a[(w_i64 ((i : Int) - 1)).toNat]?).bind fun y_5 => (spec_l21Before a[i] y_5).bind fun r_6 => (if r_6 = true then some false else spec_l21List_l0 k n a (w_i64 ((i : Int) + 1)) (fun list_9 => some (decide ((List.length list_9 : Int) ≤ 24)))) else none) else spec_l21List_l0 k n a (w_i64 ((i : Int) + 1)) (fun list_9 => some (decide ((List.length list_9 : Int) ≤ 24)))) =
        if (if 0 < i then (match a[i - 1]? with | some z => !bbef a[i] z | none => false) else true) = true then spec_l21List_l0 k n a ((i + 1 : Nat) : Int) (fun list_9 => some (decide ((List.length list_9 : Int) ≤ 24))) else some false := by
      rw [hw]
      by_cases h0 : 0 < i
      · have hw1 : w_i64 ((i : Int) - 1) = ((i - 1 : Nat) : Int) := by rw [w_id (by omega) (by omega)]; omega
        have hg1 : a[i - 1]? = some a[i - 1] := List.getElem?_eq_getElem (by omega)
        have h0' : (0 : Int) < (i : Int) := by omega
        simp only [hw1, Int.natCast_nonneg, Int.toNat_natCast, hg1, h0, h0', decide_true, if_true, Option.bind_some, bbef_ok]
        cases bbef a[i] a[i - 1] <;> simp
      · have h0' : ¬ (0 : Int) < (i : Int) := by omega
        simp [h0, h0']
    simp only [spec_l21List_l0, hlt, decide_true, if_true, Int.natCast_nonneg, Int.toNat_natCast, hg, Option.bind_some, spec_l05Dimension, spec_l21Time, l00In_ok, barAt, tail]
    unfold okBar
    by_cases q1 : 0 ≤ a[i].1 ∧ a[i].1 ≤ 3
    · by_cases q2 : 0 ≤ a[i].2.1 ∧ a[i].2.1 ≤ 1000
      · by_cases q3 : a[i].2.2 = -1
        · simp [q1, q2, q3]
        · by_cases q4 : a[i].2.2 ≤ a[i].2.1
          · have : ¬ a[i].2.1 < a[i].2.2 := by omega
            simp [q1, q2, q3, q4, this]
          · have h5 : a[i].2.1 < a[i].2.2 := by omega
            have h6 : 0 ≤ a[i].2.2 := by omega
            by_cases q5 : a[i].2.2 ≤ 1000
            · simp [q1, q2, q3, q4, q5, h5, h6]
            · simp [q1, q2, q3, q4, q5]
      · simp [q1, q2]
    · simp [q1]
  · intro n
    have e2 : decide ((a.length : Int) ≤ 24) = decide (a.length ≤ 24) := decide_eq_decide.2 (by omega)
    simp only [spec_l21List_l0, Int.lt_irrefl, decide_false, Bool.false_eq_true, if_false, e2]
theorem implValidBars_ok {k : Nat} (hk : KK ≤ k) {a : List Bar} (ha : a.length ≤ 1048576) : impl_ValidBars k a = some (okBars a) := by
  have hK := KK_def
  unfold impl_ValidBars okBars
  have := loop_allN' (L := fun n i => impl_ValidBars_l0 k n a a (a.length : Int) i (fun list_9 => some (decide ((List.length list_9 : Int) ≤ 24)))) (b := a.length) (p := barAt a) (r := some false) (e := some (decide (a.length ≤ 24))) ?_ ?_ (n := k) (by omega)
  · refine Eq.trans this ?_
    cases (List.range a.length).all (barAt a) <;> simp
  · intro n i hi hbefore
    have hlt : (i : Int) < (a.length : Int) := by omega
    have hw := w_succ (i := i) (by omega)
    have hg : a[i]? = some a[i] := List.getElem?_eq_getElem hi
    have tail : okBar a[i] = true → (if decide (0 < (i : Int)) = true then (if 0 ≤ (w_i64 ((i : Int) - 1)) then (a[(w_i64 ((i : Int) - 1)).toNat]?).bind fun y_5 => (impl_compareBars k y_5 a[i]).bind fun r_6 => (if (decide (0 < r_6)) = true then some false else impl_ValidBars_l0 k n a a (a.length : Int) (w_i64 ((i : Int) + 1)) (fun list_9 => some (decide ((List.length list_9 : Int) ≤ 24)))) else none) else impl_ValidBars_l0 k n a a (a.length : Int) (w_i64 ((i : Int) + 1)) (fun list_9 => some (decide ((List.length list_9 : Int) ≤ 24)))) =
        if (if 0 < i then (match a[i - 1]? with | some z => !bbef a[i] z | none => false) else true) = true then impl_ValidBars_l0 k n a a (a.length : Int) ((i + 1 : Nat) : Int) (fun list_9 => some (decide ((List.length list_9 : Int) ≤ 24))) else some false := by
      intro hok
      rw [hw]
      by_cases h0 : 0 < i
      · have hw1 : w_i64 ((i : Int) - 1) = ((i - 1 : Nat) : Int) := by rw [w_id (by omega) (by omega)]; omega
        have hg1 : a[i - 1]? = some a[i - 1] := List.getElem?_eq_getElem (by omega)
        have h0' : (0 : Int) < (i : Int) := by omega
        have hok1 : okBar a[i - 1] = true := by
          have := hbefore (i - 1) (by omega)
          unfold barAt at this
          rw [hg1] at this
          simp only [Bool.and_eq_true] at this
          exact this.1
        simp only [hw1, Int.natCast_nonneg, Int.toNat_natCast, hg1, h0, h0', decide_true, if_true, Option.bind_some, compareBars_ok hk, cmpBar_bef hok1 hok]
        cases bbef a[i] a[i - 1] <;> simp
      · have h0' : ¬ (0 : Int) < (i : Int) := by omega
        simp [h0, h0']
    have hb : okBar a[i] = (decide (0 ≤ a[i].1 ∧ a[i].1 ≤ 3) && (decide (0 ≤ a[i].2.1 ∧ a[i].2.1 ≤ 1000) && (decide (a[i].2.2 = -1) || decide (a[i].2.1 < a[i].2.2 ∧ a[i].2.2 ≤ 1000)))) := rfl
    simp only [impl_ValidBars_l0, hlt, decide_true, if_true, Int.natCast_nonneg, Int.toNat_natCast, hg, Option.bind_some, impl_isDimension, impl_isTime, within_ok, barAt]
    by_cases q1 : 0 ≤ a[i].1 ∧ a[i].1 ≤ 3
    · by_cases q2 : 0 ≤ a[i].2.1 ∧ a[i].2.1 ≤ 1000
      · have e1 : w_i64 (a[i].2.1 + 1) = a[i].2.1 + 1 := w_id (by omega) (by omega)
        by_cases q3 : a[i].2.2 = -1
        · have hok : okBar a[i] = true := by rw [hb]; simp [q1, q2, q3]
          rw [decide_eq_true q1, decide_eq_true q2, decide_eq_true q3, hok, Bool.true_and]
          simp only [Bool.not_true, Bool.false_eq_true, if_false]
          exact tail hok
        · by_cases q4 : a[i].2.1 + 1 ≤ a[i].2.2 ∧ a[i].2.2 ≤ 1000
          · have hok : okBar a[i] = true := by rw [hb]; simp [q1, q2, q3]; omega
            rw [e1, decide_eq_true q1, decide_eq_true q2, decide_eq_false q3, decide_eq_true q4, hok, Bool.true_and]
            simp only [Bool.not_true, Bool.not_false, Bool.false_eq_true, if_false, if_true]
            exact tail hok
          · have hok : okBar a[i] = false := by rw [hb]; simp [q1, q2, q3]; omega
            rw [e1, decide_eq_true q1, decide_eq_true q2, decide_eq_false q3, decide_eq_false q4, hok, Bool.false_and]
            simp
      · have hok : okBar a[i] = false := by rw [hb, decide_eq_false q2]; simp
        rw [decide_eq_true q1, decide_eq_false q2, hok, Bool.false_and]; simp
    · have hok : okBar a[i] = false := by rw [hb, decide_eq_false q1]; simp
      rw [decide_eq_false q1, hok, Bool.false_and]; simp
  · intro n
    have e2 : decide ((a.length : Int) ≤ 24) = decide (a.length ≤ 24) := decide_eq_decide.2 (by omega)
    simp only [impl_ValidBars_l0, Int.lt_irrefl, decide_false, Bool.false_eq_true, if_false, e2]
/-- A picture. -/
def wid (lines : List (List UInt8)) : Nat := (lines.headD []).length
def okC (c : UInt8) : Bool := decide (32 ≤ c.toNat ∧ c.toNat ≤ 126)
def okLine (w : Nat) (l : List UInt8) : Bool := decide (l.length = w) && (decide (l.length ≤ 80) && l.all okC)
def okPic (lines : List (List UInt8)) : Bool := lines.all (okLine (wid lines)) && decide (lines.length ≤ 60)
theorem wid_get {lines : List (List UInt8)} {i : Nat} {x : List UInt8} (h : lines[i]? = some x) : ∃ y, lines[0]? = some y ∧ y.length = wid lines := by
  cases lines with
  | nil => simp at h
  | cons y l => exact ⟨y, rfl, rfl⟩
theorem l30Ok_ok {k : Nat} (hk : KK ≤ k) {a : List (List UInt8)} (ha : a.length ≤ 1000000000000) (hx : ∀ x ∈ a, x.length ≤ 1000000000000) : spec_l30Ok k a = some (okPic a) := by
  unfold spec_l30Ok
  have hK := KK_def
  have := loop_all (L := fun n i => spec_l30Ok_l0 k n a i fun lines_6 => some (decide ((List.length lines_6 : Int) ≤ 60))) (p := okLine (wid a)) (r := some false) (e := some (decide (a.length ≤ 60))) a ?_ ?_ (n := k) (by omega)
  · refine Eq.trans this ?_
    unfold okPic
    cases a.all (okLine (wid a)) <;> rfl
  · intro n i x hi hlt
    have hxl := hx x (List.mem_of_getElem? hi)
    have hw := w_succ (i := i) (by omega)
    obtain ⟨y, h0, hy⟩ := wid_get hi
    have inner := loop_all (L := fun m j => spec_l30Ok_l1 k m a (i : Int) j fun lines_4 i_5 => spec_l30Ok_l0 k n lines_4 (w_i64 (i_5 + 1)) fun lines_6 => some (decide ((List.length lines_6 : Int) ≤ 60)))
      (p := okC) (r := some false) (e := spec_l30Ok_l0 k n a ((i + 1 : Nat) : Int) fun lines_6 => some (decide ((List.length lines_6 : Int) ≤ 60))) x ?_ ?_ (n := k) (by omega)
    · simp only [spec_l30Ok_l0, hlt, decide_true, if_true, Int.natCast_nonneg, Int.toNat_natCast, hi, h0, Option.bind_some]
      unfold okLine
      by_cases h1 : x.length = wid a
      · have h1' : (x.length : Int) = (y.length : Int) := by omega
        by_cases h2 : x.length ≤ 80
        · have h2' : ¬ (80 < (x.length : Int)) := by omega
          have e1 : (decide (x.length = wid a) && (decide (x.length ≤ 80) && x.all okC)) = x.all okC := by simp [h1, h2]; omega
          rw [decide_eq_true h1', if_neg (by simp), decide_eq_false h2', if_neg (by simp), e1]
          exact inner
        · have h2' : (80 < (x.length : Int)) := by omega
          rw [decide_eq_true h1', if_neg (by simp), decide_eq_true h2', if_pos rfl, decide_eq_false h2, if_neg (by simp)]
      · have h1' : ¬ (x.length : Int) = (y.length : Int) := by omega
        rw [decide_eq_false h1', if_pos (by simp), decide_eq_false h1, if_neg (by simp)]
    · intro m j c hj hjlt
      have hw2 := w_succ (i := j) (by omega)
      simp only [spec_l30Ok_l1, hjlt, decide_true, if_true, Int.natCast_nonneg, Int.toNat_natCast, hi, hj, Option.bind_some, hw2]
      unfold okC z_u8
      by_cases h3 : c.toNat < 32
      · rw [decide_eq_true (by omega), if_pos rfl, if_neg (by simp; omega)]
      · rw [decide_eq_false (by omega), if_neg (by simp)]
        by_cases h4 : 126 < c.toNat
        · rw [decide_eq_true (by omega), if_pos rfl, if_neg (by simp; omega)]
        · rw [decide_eq_false (by omega), if_neg (by simp), if_pos (by simp; omega)]
    · intro m
      simp [spec_l30Ok_l1, hi, hw]
  · intro n
    simp only [spec_l30Ok_l0, Int.lt_irrefl, decide_false, Bool.false_eq_true, if_false]
    exact congrArg some (decide_eq_decide.2 (by omega))
theorem repeatL_one' (b : UInt8) : ∀ n, Lib.repeatL [b] n = List.replicate n b
  | 0 => rfl
  | n + 1 => by simp [Lib.repeatL, repeatL_one' b n, List.replicate_succ]
theorem repeat_ok (b : UInt8) {n : Nat} (hn : n ≤ 1000000) : strings_Repeat [b] (n : Int) = some (List.replicate n b) := by
  unfold strings_Repeat
  rw [if_pos ⟨by omega, by omega, by simp; omega⟩, Int.toNat_natCast, repeatL_one']
abbrev Pic := List (List UInt8)
def doneP (q : Pic) : Pic × Int := if okPic q = true then (q, 0) else ([], 5)
theorem l30Times_ok {k : Nat} (hk : KK ≤ k) (b : UInt8) {n : Nat} (hn : n ≤ 1000000) : spec_l30Times k [b] (n : Int) = some (List.replicate n b) := by
  have hK := KK_def
  unfold spec_l30Times
  have := loop_list (L := fun m i q => spec_l30Times_l0 k m [b] (n : Int) q i (fun out_1 => some out_1)) (I := fun pre q => q = pre) (G := fun post q => some (q ++ post)) (List.replicate n b) ?_ ?_ k (by simp; omega) [] rfl
  · simpa using this
  · intro m pre x post q hx hq ih hg hlt
    subst hq
    rw [List.length_replicate] at hlt
    have hw := w_succ (i := q.length) (by omega)
    have hb : x = b := List.eq_of_mem_replicate (List.mem_of_getElem? hg)
    subst hb
    have ih := ih _ rfl
    simp only [spec_l30Times_l0, hlt, decide_true, if_true, hw]
    rw [if_pos (by simp only [List.length_singleton]; omega), ih]
    simp
  · intro m q hq
    simp [spec_l30Times_l0]
theorem l30Done_ok {k : Nat} (hk : KK ≤ k) {q : Pic} (ha : q.length ≤ 1000000000000) (hx : ∀ x ∈ q, x.length ≤ 1000000000000) : (spec_l30Done_g k q).bind (fun y => some (y.2.1.1, y.1.1.2.1)) = some (doneP q) := by
  unfold spec_l30Done_g doneP
  rw [l30Ok_ok hk ha hx]
  cases okPic q <;> simp
theorem okPic_same {q : Pic} {W : Nat} (h : ∀ l ∈ q, l.length = W ∧ l.all okC = true) : okPic q = (decide (q.length ≤ 60) && (q.isEmpty || decide (W ≤ 80))) := by
  unfold okPic
  cases q with
  | nil => simp
  | cons z zs =>
    have hw : wid (z :: zs) = W := (h z (by simp)).1
    rw [hw, List.isEmpty_cons, Bool.false_or, Bool.and_comm]
    congr 1
    by_cases h80 : W ≤ 80
    · rw [decide_eq_true h80, List.all_eq_true]
      intro l hl
      obtain ⟨h1, h2⟩ := h l hl
      unfold okLine
      simp [h1, h2, h80]
    · rw [decide_eq_false h80, List.all_eq_false]
      refine ⟨z, by simp, ?_⟩
      unfold okLine
      simp [(h z (by simp)).1, h80]
theorem pictured_done {k : Nat} (hk : KK ≤ k) {q : Pic} {W : Nat} (hq : q.length ≤ 1000000) (hW : W ≤ 1000000) (h : ∀ l ∈ q, l.length = W ∧ l.all okC = true) : impl_pictured k q = some (doneP q) := by
  have hK := KK_def
  have hL := LIM_def
  unfold impl_pictured
  let W' : Int := if q = [] then 0 else (W : Int)
  have h0 := loop_list (L := fun n i a => impl_pictured_l0 k n q a q (q.length : Int) i (fun lines_2 width_3 => impl_pictured_l1 k k width_3 lines_2 (List.length lines_2 : Int) 0 [] (fun width_7 q_8 => (if (decide (60 < (List.length q_8 : Int))) = true then some ([], 5) else (if (decide (80 < width_7)) = true then some ([], 5) else some (q_8, 0))))))
    (I := fun pre a => a = if pre = [] then 0 else (W : Int)) (G := fun _ _ => impl_pictured_l1 k k W' q (q.length : Int) 0 [] (fun width_7 q_8 => (if (decide (60 < (List.length q_8 : Int))) = true then some ([], 5) else (if (decide (80 < width_7)) = true then some ([], 5) else some (q_8, 0))))) q ?_ ?_ k (by omega) 0 (by simp)
  · refine Eq.trans h0 ?_
    have h1 := loop_list (L := fun n i r => impl_pictured_l1 k n W' q (q.length : Int) i r (fun width_7 q_8 => (if (decide (60 < (List.length q_8 : Int))) = true then some ([], 5) else (if (decide (80 < width_7)) = true then some ([], 5) else some (q_8, (0 : Int))))))
      (I := fun pre r => r = pre) (G := fun _ _ => some (doneP q)) q ?_ ?_ k (by omega) [] rfl
    · exact h1
    · intro n pre x post r hx hr ih hg hlt
      subst hr
      have hw := w_succ (i := r.length) (by omega)
      have hxl := (h x (List.mem_of_getElem? hg)).1
      have hne : q ≠ [] := by intro e; rw [e] at hg; simp at hg
      have hW' : W' = (W : Int) := by show (if q = [] then (0 : Int) else (W : Int)) = _; rw [if_neg hne]
      have hz : w_i64 (W' - (x.length : Int)) = ((0 : Nat) : Int) := by rw [hW', w_id (by omega) (by omega)]; omega
      have ih := ih _ rfl
      simp only [impl_pictured_l1, hlt, decide_true, if_true, Int.natCast_nonneg, Int.toNat_natCast, hg, Option.bind_some, hz, repeat_ok 32 (show 0 ≤ 1000000 by omega), hw, List.replicate_zero, List.append_nil]
      rw [if_pos (by simp only [List.length_nil]; omega), if_pos (by simp only [List.length_singleton]; omega), ih]
    · intro n r hr
      subst hr
      simp only [impl_pictured_l1, Int.lt_irrefl, decide_false, Bool.false_eq_true, if_false]
      unfold doneP
      rw [okPic_same h]
      by_cases h60 : r.length ≤ 60
      · rw [decide_eq_false (show ¬ (60 < (r.length : Int)) by omega), if_neg (by simp), decide_eq_true h60, Bool.true_and]
        cases r with
        | nil => simp [W']
        | cons z zs =>
          have hW' : W' = (W : Int) := rfl
          rw [hW', List.isEmpty_cons, Bool.false_or]
          by_cases h80 : W ≤ 80
          · rw [decide_eq_false (show ¬ (80 < (W : Int)) by omega), decide_eq_true h80]; rfl
          · rw [decide_eq_true (show (80 < (W : Int)) by omega), decide_eq_false h80]; rfl
      · rw [decide_eq_true (show (60 < (r.length : Int)) by omega), if_pos rfl, decide_eq_false h60]; rfl
  · intro n pre x post a hx ha ih hg hlt
    subst ha
    have hw := w_succ (i := pre.length) (by omega)
    have hxl := (h x (List.mem_of_getElem? hg)).1
    simp only [impl_pictured_l0, hlt, decide_true, if_true, Int.natCast_nonneg, Int.toNat_natCast, hg, Option.bind_some, hw]
    refine ih _ ?_
    rw [hxl, if_neg (show pre ++ [x] ≠ [] by simp)]
    by_cases hp : pre = []
    · rw [if_pos hp]; split <;> omega
    · rw [if_neg hp]; split <;> rfl
  · intro n a ha
    subst ha
    simp only [impl_pictured_l0, Int.lt_irrefl, decide_false, Bool.false_eq_true, if_false]
    rfl
def barC (x : Bar) (t : Nat) : Bool := decide (x.2.1 ≤ (t : Int)) && (decide (x.2.2 = -1) || decide ((t : Int) < x.2.2))
def chrB (x : Bar) (E t : Nat) : UInt8 := if barC x t = true then (if (decide (t = E) && decide (x.2.2 = -1)) = true then 62 else 61) else 46
def barL' (E : Nat) (x : Bar) : List UInt8 := (List.range (E + 1)).map (chrB x E)
def barsP (l : List Bar) (e : Int) : Pic × Int := if okBars l = true then (if 0 ≤ e ∧ e ≤ 79 then doneP (l.map (barL' e.toNat)) else ([], 2)) else ([], 1)
theorem barL_spec (E : Nat) (x : Bar) : (barL' E x).length = E + 1 ∧ (barL' E x).all okC = true := by
  refine ⟨by simp [barL'], ?_⟩
  unfold barL'
  rw [List.all_map, List.all_eq_true]
  intro t _
  show okC (chrB x E t) = true
  unfold chrB
  split
  · split <;> rfl
  · rfl
theorem specBar_line {k : Nat} (hk : KK ≤ k) {l : List Bar} {i : Nat} {x : Bar} (hi : l[i]? = some x) {E : Nat} (hE : E ≤ 79) {q : Pic} {e : List Bar → Int → Int → List UInt8 → Pic → Option (Pic × Int)} :
    spec_BarsPicture_l1 k k l (E : Int) (i : Int) [] 0 q e = e l (E : Int) (i : Int) (barL' E x) q := by
  have hK := KK_def
  have := loop_list (α := Nat) (L := fun n t line => spec_BarsPicture_l1 k n l (E : Int) (i : Int) line t q e) (I := fun pre line => line = pre.map (chrB x E)) (G := fun post line => e l (E : Int) (i : Int) (line ++ post.map (chrB x E)) q) (List.range (E + 1)) ?_ ?_ k (by simp; omega) [] rfl
  · simpa [barL'] using this
  · intro n pre y post line hx hline ih hg hlt
    rw [List.length_range] at hlt
    have hy : y = pre.length := by
      rw [List.getElem?_range (by omega)] at hg
      simpa using hg.symm
    subst hy
    have hw := w_succ (i := pre.length) (by omega)
    have hle : (pre.length : Int) ≤ (E : Int) := by omega
    have hll : line.length = pre.length := by rw [hline]; simp
    have ih := ih (line ++ [chrB x E pre.length]) (by rw [hline]; simp)
    have c1 : line.length + [(46 : UInt8)].length ≤ 9223372036854775807 := by simp only [List.length_singleton]; omega
    have c2 : line.length + [(61 : UInt8)].length ≤ 9223372036854775807 := by simp only [List.length_singleton]; omega
    have c3 : line.length + [(62 : UInt8)].length ≤ 9223372036854775807 := by simp only [List.length_singleton]; omega
    rw [List.map_cons, ← List.singleton_append, ← List.append_assoc]
    refine Eq.trans ?_ ih
    simp only [spec_BarsPicture_l1, hle, decide_true, if_true, Int.natCast_nonneg, Int.toNat_natCast, hi, Option.bind_some, hw]
    have hEE : decide ((pre.length : Int) = (E : Int)) = decide (pre.length = E) := decide_eq_decide.2 (by omega)
    rw [hEE]
    unfold chrB barC
    generalize decide (x.2.1 ≤ (pre.length : Int)) = B1
    generalize decide (x.2.2 = -1) = B2
    generalize decide ((pre.length : Int) < x.2.2) = B3
    generalize decide (pre.length = E) = B4
    cases B1 <;> cases B2 <;> cases B3 <;> cases B4 <;> simp only [Bool.false_eq_true, if_false, if_true, Bool.false_and, Bool.true_and, Bool.and_false, Bool.and_true, Bool.or_true, Bool.or_false, Bool.true_or, Bool.false_or, Bool.or_self, Bool.and_self] <;> first | exact if_pos c1 | exact if_pos c2 | exact if_pos c3
  · intro n line hline
    rw [List.length_range]
    have : ¬ (((E + 1 : Nat)) : Int) ≤ (E : Int) := by omega
    simp only [spec_BarsPicture_l1, this, decide_false, Bool.false_eq_true, if_false, List.map_nil, List.append_nil]
theorem specBars_loop {k : Nat} (hk : KK ≤ k) {l : List Bar} (hl : l.length ≤ 1048576) {E : Nat} (hE : E ≤ 79) {e : Pic → Option (Pic × Int)} : spec_BarsPicture_l0 k k l (E : Int) 0 [] e = e (l.map (barL' E)) := by
  have hK := KK_def
  have hL := LIM_def
  have := loop_list (L := fun n i q => spec_BarsPicture_l0 k n l (E : Int) i q e) (I := fun pre q => q = pre.map (barL' E)) (G := fun post q => e (q ++ post.map (barL' E))) l ?_ ?_ k (by omega) [] rfl
  · simpa using this
  · intro n pre x post q hx hq ih hg hlt
    have hw := w_succ (i := pre.length) (by omega)
    have ih := ih (q ++ [barL' E x]) (by rw [hq]; simp)
    simp only [spec_BarsPicture_l0, hlt, decide_true, if_true]
    rw [specBar_line hk hg hE]
    rw [if_pos (by rw [hq]; simp only [List.length_map, List.length_singleton]; omega), hw, ih]
    simp
  · intro n q hq
    simp [spec_BarsPicture_l0]
theorem implBar_line {k : Nat} (hk : KK ≤ k) {x : Bar} {E : Nat} (hE : E ≤ 79) {l : List Bar} {a b : Int} {q : Pic} {e : Int → List Bar → Int → Int → Pic → List Int → Bar → Option (Pic × Int)} :
    impl_BarsPicture_l1 k k (E : Int) l a b ((E + 1 : Nat) : Int) 0 q (List.replicate (E + 1) 46) x e = e (E : Int) l a b q ((List.range (E + 1)).map fun t => if barC x t = true then 61 else 46) x := by
  have hK := KK_def
  have := loop_list (α := Nat) (L := fun n t r => impl_BarsPicture_l1 k n (E : Int) l a b ((E + 1 : Nat) : Int) t q r x e)
    (I := fun pre r => r.length = E + 1 ∧ ∀ t, t < E + 1 → r[t]? = some (if t < pre.length then (if barC x t = true then 61 else 46) else 46)) (G := fun _ _ => e (E : Int) l a b q ((List.range (E + 1)).map fun t => if barC x t = true then 61 else 46) x) (List.range (E + 1)) ?_ ?_ k (by simp; omega) (List.replicate (E + 1) 46) ⟨by simp, fun t ht => by simp [List.getElem?_replicate, ht]⟩
  · exact this
  · intro n pre y post r hx hr ih hg hlt
    rw [List.length_range] at hlt
    have hlt2 : pre.length < E + 1 := by omega
    have hw := w_succ (i := pre.length) (by omega)
    have hlr : pre.length < r.length := by rw [hr.1]; exact hlt2
    have hset : ∀ (v : Int), v = (if barC x pre.length = true then 61 else 46) → ∀ t, t < E + 1 → (r.set pre.length v)[t]? = some (if t < (pre ++ [y]).length then (if barC x t = true then 61 else 46) else 46) := by
      intro v hv t ht
      rw [List.length_append, List.length_singleton]
      by_cases h : pre.length = t
      · subst h; rw [List.getElem?_set_self hlr, if_pos (show pre.length < pre.length + 1 by omega), hv]
      · rw [List.getElem?_set_ne h, hr.2 t ht]
        by_cases h' : t < pre.length
        · rw [if_pos h', if_pos (show t < pre.length + 1 by omega)]
        · rw [if_neg h', if_neg (show ¬ t < pre.length + 1 by omega)]
    have yes : barC x pre.length = true → impl_BarsPicture_l1 k n (E : Int) l a b ((E + 1 : Nat) : Int) ((pre.length + 1 : Nat) : Int) q (r.set pre.length 61) x e = e (E : Int) l a b q ((List.range (E + 1)).map fun t => if barC x t = true then 61 else 46) x :=
      fun h => ih _ ⟨by rw [List.length_set]; exact hr.1, hset 61 (by rw [if_pos h])⟩
    have no : ¬ barC x pre.length = true → impl_BarsPicture_l1 k n (E : Int) l a b ((E + 1 : Nat) : Int) ((pre.length + 1 : Nat) : Int) q r x e = e (E : Int) l a b q ((List.range (E + 1)).map fun t => if barC x t = true then 61 else 46) x := by
      intro h
      refine ih _ ⟨hr.1, fun t ht => ?_⟩
      rw [hr.2 t ht, List.length_append, List.length_singleton]
      by_cases h' : t < pre.length
      · rw [if_pos h', if_pos (show t < pre.length + 1 by omega)]
      · by_cases h'' : t = pre.length
        · subst h''; rw [if_neg h', if_pos (show pre.length < pre.length + 1 by omega), if_neg h]
        · rw [if_neg h', if_neg (show ¬ t < pre.length + 1 by omega)]
    have hc : barC x pre.length = (decide (x.2.1 ≤ (pre.length : Int)) && (decide (x.2.2 = -1) || decide ((pre.length : Int) < x.2.2))) := rfl
    simp only [impl_BarsPicture_l1, impl_isForever, hlt, decide_true, if_true, Int.natCast_nonneg, Int.toNat_natCast, hlr, and_self, List.getElem?_eq_getElem hlr, Option.bind_some, hw]
    by_cases h1 : x.2.1 ≤ (pre.length : Int)
    · by_cases h2 : x.2.2 = -1
      · rw [decide_eq_true h1, if_pos rfl, decide_eq_true h2, if_pos rfl]
        exact yes (by rw [hc]; simp [h1, h2])
      · by_cases h3 : (pre.length : Int) < x.2.2
        · rw [decide_eq_true h1, if_pos rfl, decide_eq_false h2, if_neg (by simp), decide_eq_true h3, if_pos rfl]
          exact yes (by rw [hc]; simp [h1, h3])
        · rw [decide_eq_true h1, if_pos rfl, decide_eq_false h2, if_neg (by simp), decide_eq_false h3, if_neg (by simp)]
          exact no (by rw [hc]; simp [h2, h3])
    · rw [decide_eq_false h1, if_neg (by simp)]
      exact no (by rw [hc]; simp [h1])
  · intro n r hr
    rw [List.length_range] at hr ⊢
    have hreq : r = (List.range (E + 1)).map fun t => if barC x t = true then 61 else 46 := by
      apply List.ext_getElem?
      intro t
      by_cases ht : t < E + 1
      · rw [hr.2 t ht, if_pos ht, List.getElem?_map, List.getElem?_range ht]; rfl
      · rw [List.getElem?_eq_none (by rw [hr.1]; omega), List.getElem?_eq_none (by simp; omega)]
    simp only [impl_BarsPicture_l1, Int.lt_irrefl, decide_false, Bool.false_eq_true, if_false]
    rw [← hreq]
theorem implBar_text (E : Nat) (x : Bar) : to_S (if x.2.2 = -1 ∧ x.2.1 ≤ (E : Int) then ((List.range (E + 1)).map fun t => if barC x t = true then (61 : Int) else 46).set E 62 else (List.range (E + 1)).map fun t => if barC x t = true then (61 : Int) else 46) = barL' E x := by
  apply List.ext_getElem?
  intro t
  unfold barL' to_S
  rw [List.getElem?_map, List.getElem?_map]
  by_cases ht : t < E + 1
  · rw [List.getElem?_range ht]
    simp only [Option.map_some]
    have hm : ((List.range (E + 1)).map fun t => if barC x t = true then (61 : Int) else 46)[t]? = some (if barC x t = true then 61 else 46) := by
      rw [List.getElem?_map, List.getElem?_range ht]; rfl
    by_cases hc : x.2.2 = -1 ∧ x.2.1 ≤ (E : Int)
    · rw [if_pos hc]
      by_cases hE : E = t
      · subst hE
        rw [List.getElem?_set_self (by simp)]
        have hb : barC x E = true := by unfold barC; simp [hc.1, hc.2]
        unfold chrB
        rw [if_pos hb, if_pos (by simp [hc.1])]; rfl
      · rw [List.getElem?_set_ne hE, hm]
        unfold chrB
        have hE' : ¬ t = E := fun e => hE e.symm
        by_cases hb : barC x t = true
        · simp [hb, hE']
        · simp [hb]
    · rw [if_neg hc, hm]
      unfold chrB
      by_cases hb : barC x t = true
      · have : ¬ ((decide (t = E) && decide (x.2.2 = -1)) = true) := by
          intro h
          simp only [Bool.and_eq_true, decide_eq_true_eq] at h
          obtain ⟨rfl, h2⟩ := h
          refine hc ⟨h2, ?_⟩
          unfold barC at hb
          simp only [Bool.and_eq_true, decide_eq_true_eq] at hb
          exact hb.1
        simp only [hb, if_true, this, if_false, Option.map_some]; rfl
      · simp [hb]
  · rw [List.getElem?_eq_none (by split <;> simp <;> omega), List.getElem?_eq_none (by simp; omega)]; rfl
theorem implBars_loop {k : Nat} (hk : KK ≤ k) {l : List Bar} (hl : l.length ≤ 1048576) {E : Nat} (hE : E ≤ 79) {e : Pic → Option (Pic × Int)} : impl_BarsPicture_l0 k k (E : Int) l (l.length : Int) 0 [] e = e (l.map (barL' E)) := by
  have hK := KK_def
  have hL := LIM_def
  have := loop_list (L := fun n i q => impl_BarsPicture_l0 k n (E : Int) l (l.length : Int) i q e) (I := fun pre q => q = pre.map (barL' E)) (G := fun post q => e (q ++ post.map (barL' E))) l ?_ ?_ k (by omega) [] rfl
  · simpa using this
  · intro n pre x post q hx hq ih hg hlt
    have hw := w_succ (i := pre.length) (by omega)
    have hwE := w_succ (i := E) (by omega)
    have ih := ih (q ++ [barL' E x]) (by rw [hq]; simp)
    have hS : of_S (List.replicate (E + 1) 46) = List.replicate (E + 1) 46 := by simp [of_S]
    have hlS : ((List.replicate (E + 1) (46 : Int)).length : Int) = ((E + 1 : Nat) : Int) := by simp
    have hcq : ∀ y : List UInt8, (q.length + [y].length) * 16 ≤ LIM := fun y => by rw [hq]; simp only [List.length_map, List.length_singleton]; omega
    have htx := implBar_text E x
    rw [List.map_cons, ← List.singleton_append, ← List.append_assoc]
    refine Eq.trans ?_ ih
    simp only [impl_BarsPicture_l0, hlt, decide_true, if_true, Int.natCast_nonneg, Int.toNat_natCast, hg, Option.bind_some, hwE, repeat_ok 46 (show E + 1 ≤ 1000000 by omega), hS, hlS]
    rw [if_pos (by simp only [List.length_replicate]; omega), implBar_line hk hE]
    simp only [impl_isForever, Option.bind_some, hw, Int.toNat_natCast, Int.natCast_nonneg]
    have hEl : E < ((List.range (E + 1)).map fun t => if barC x t = true then (61 : Int) else 46).length := by simp
    by_cases h1 : x.2.2 = -1
    · by_cases h2 : x.2.1 ≤ (E : Int)
      · rw [if_pos ⟨h1, h2⟩] at htx
        rw [decide_eq_true h1, if_pos rfl, decide_eq_true h2, if_pos rfl, if_pos ⟨trivial, hEl⟩, List.getElem?_eq_getElem hEl]
        simp only [Option.bind_some]
        rw [if_pos (hcq _), htx]
      · rw [if_neg (fun h => h2 h.2)] at htx
        rw [decide_eq_true h1, if_pos rfl, decide_eq_false h2, if_neg (by simp), if_pos (hcq _), htx]
    · rw [if_neg (fun h => h1 h.1)] at htx
      rw [decide_eq_false h1, if_neg (by simp), if_pos (hcq _), htx]
  · intro n q hq
    simp [impl_BarsPicture_l0]
theorem bars_same {l : List Bar} (E : Nat) : ∀ y ∈ l.map (barL' E), y.length = E + 1 ∧ y.all okC = true := by
  intro y hy
  obtain ⟨x, _, rfl⟩ := List.mem_map.1 hy
  exact barL_spec E x
theorem specBars_ok {k : Nat} (hk : KK ≤ k) {a : List Bar} (ha : a.length ≤ 1048576) (e : Int) : spec_BarsPicture k a e = some (barsP a e) := by
  unfold spec_BarsPicture barsP
  rw [l21List_ok hk ha, l00In_ok]
  cases okBars a
  · simp
  · by_cases he : 0 ≤ e ∧ e ≤ 79
    · obtain ⟨E, rfl⟩ := Int.eq_ofNat_of_zero_le he.1
      rw [if_pos he, decide_eq_true he]
      simp only [Option.bind_some, Bool.not_true, Bool.false_eq_true, if_false, if_true, Int.toNat_natCast]
      rw [specBars_loop hk ha (by omega)]
      exact l30Done_ok hk (q := a.map (barL' E)) (by simp; omega) (fun x hx => by have := (bars_same E x hx).1; omega)
    · rw [if_neg he, decide_eq_false he]; simp
theorem implBars_ok {k : Nat} (hk : KK ≤ k) {a : List Bar} (ha : a.length ≤ 1048576) (e : Int) : impl_BarsPicture k a e = some (barsP a e) := by
  unfold impl_BarsPicture barsP
  rw [implValidBars_ok hk ha, within_ok]
  cases ho : okBars a
  · simp
  · by_cases he : 0 ≤ e ∧ e ≤ 79
    · obtain ⟨E, rfl⟩ := Int.eq_ofNat_of_zero_le he.1
      have h24 : a.length ≤ 24 := by
        unfold okBars at ho
        simp only [Bool.and_eq_true, decide_eq_true_eq] at ho
        exact ho.2
      rw [if_pos he, decide_eq_true he]
      simp only [Option.bind_some, Bool.not_true, Bool.false_eq_true, if_false, if_true, Int.toNat_natCast]
      rw [implBars_loop hk ha (by omega), pictured_done hk (q := a.map (barL' E)) (W := E + 1) (by simp; omega) (by omega) (bars_same E)]
      rfl
    · rw [if_neg he, decide_eq_false he]; simp
theorem barsP_len (a : List Bar) (e : Int) : (barsP a e).1.length ≤ a.length := by
  unfold barsP doneP
  split
  · split
    · split <;> simp
    · simp
  · simp
theorem pure_FnExactBarsPicture {e : TypeId} (a0 : List (Int × Int × Int)) (a1 : Int) (f0 : InR (.sl e (.st (.pr (.int .i64) (.pr (.int .i64) (.int .i64))))) a0) (f1 : InR (.int .i64) a1) : ∃ k : Nat, laws_FnExactBarsPicture k a0 a1 = some true := by
  have hk := Nat.le_refl KK
  refine ⟨KK, ?_⟩
  have hlen : a0.length ≤ 140737488355328 := Nat.le_trans f0.1 (by omega)
  obtain ⟨r, hr, h⟩ := szBarS_ok (a := a0) (left := 1048576) (by omega) (by omega) hlen
  unfold laws_FnExactBarsPicture
  rw [hr]; simp only [Option.bind_some]
  rcases h with h | ⟨h1, h2, h3⟩
  · rw [decide_eq_true h, if_pos rfl]
  · rw [decide_eq_false (by omega), if_neg (by simp)]
    have hl := barsP_len a0 a1
    obtain ⟨q, q1⟩ := markBarS_ok hk (a := a0) (m := 1) (by omega) (by omega) (by omega)
    obtain ⟨q', q1', q2'⟩ := markStringS_ok hk (a := (barsP a0 a1).1) (m := 1) (by omega) (by omega) (by omega)
    have hn : ¬ (1 + 3 * (a0.length : Int) < 0) := by omega
    have hn' : ¬ (1 + ((barsP a0 a1).1.length : Int) < 0) := by omega
    simp only [toBarS_ok hk h3, Option.bind_some, specBars_ok hk h3, implBars_ok hk h3, eqStringS_ok hk (show (barsP a0 a1).1.length < 4611686018427387904 by omega), eqBarS_ok hk (show a0.length < 4611686018427387904 by omega), decide_true, Bool.not_true, Bool.false_eq_true, if_false, q1, q1', q2', hn, hn', decide_false]
end Go.Proofs.Ytkopnopjbaejjaa.Ev
