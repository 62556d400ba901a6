/- Plain laws of the printed functions. No conditions but those in each statement. -/
import Derived.Test.YtlcophcnioaaoaaEv4
import Derived.Test.YtlcophcnioaaoaaG3
set_option linter.unusedVariables false
set_option linter.unusedSimpArgs false
namespace Go.Proofs.Ytlcophcnioaaoaa.Ev
open Go.RowKit
theorem eqStringS_ok {k : Nat} (hk : KK ≤ k) {a b : List (List UInt8)} (ha : a.length < 4611686018427387904) : laws_eqStringS k a b = some (decide (a = b)) := by
  unfold laws_eqStringS
  by_cases hl : a.length = b.length
  · rw [if_neg (by simp [hl])]
    refine loop_eq (L := fun n i => laws_eqStringS_l0 k n a b i (some true)) a b hl ?_ ?_ (n := k) (by have := KK_def; omega)
    · intro n i x y hx hy hlt
      have hw := w_succ (i := i) (by omega)
      by_cases e : x = y <;> simp [laws_eqStringS_l0, hlt, hx, hy, hw, e]
    · intro n
      simp [laws_eqStringS_l0]
  · have h2 : a ≠ b := fun e => hl (by rw [e])
    have h3 : ¬ (a.length : Int) = b.length := by omega
    simp [h3, h2]
theorem toStringS_ok {k : Nat} (hk : KK ≤ k) {a : List (List UInt8)} (ha : a.length ≤ 1048576) : laws_toStringS k a = some a := by
  unfold laws_toStringS
  have hL := LIM_def
  rw [if_pos ⟨by omega, Int.le_refl _, by omega⟩]
  refine loop_copy (L := fun n i q => laws_toStringS_l0 k n a i q fun q_5 => some q_5) (e := fun q => some q) a _ (by simp) ?_ ?_ (n := k) (by have := KK_def; omega)
  · intro n i x q hx hlt hq
    have hw := w_succ (i := i) (by omega)
    have hi : i < q.length := by omega
    simp [laws_toStringS_l0, hlt, hx, hw, hi]
  · intro n q
    simp [laws_toStringS_l0]
/-- The size asked for: it fits and leaves something, or it does not. -/
theorem szStringS_ok {k : Nat} (hk : KK ≤ k) {a : List (List UInt8)} {e : TypeId} {left : Int} (h0 : 0 ≤ left) (h1 : left ≤ 1048576) (ha : InR (.sl e .str) a) : ∃ r, laws_szStringS k a left = some r ∧ (r < 0 ∨ (0 ≤ r ∧ r ≤ left ∧ a.length ≤ 1048576 ∧ ∀ x ∈ a, x.length ≤ 1048576)) := by
  obtain ⟨hl, hx⟩ := ha
  unfold laws_szStringS
  rw [w_id (by omega) (by omega)]
  by_cases h : left - (a.length : Int) < 0
  · exact ⟨-1, by simp [h], .inl (by omega)⟩
  · simp only [decide_eq_true_eq, h, if_false]
    let G : List (List UInt8) → Int → Option Int := fun l r => l.foldr (fun x k r => if r - (x.length : Int) < 0 then some (-1) else k (r - x.length)) (fun r => some r) r
    have := loop_list (L := fun n i r => laws_szStringS_l0 k n a r i fun left => some left) (I := fun pre r => r ≤ left ∧ 0 ≤ r) (G := G) a ?_ ?_ k (by have := KK_def; omega) (left - a.length) ⟨by omega, by omega⟩
    · rw [this]
      have key : ∀ (l : List (List UInt8)) (r : Int), 0 ≤ r → r ≤ left → ∃ q, G l r = some q ∧ (q < 0 ∨ (0 ≤ q ∧ q ≤ left ∧ ∀ x ∈ l, x.length ≤ 1048576)) := by
        intro l
        induction l with
        | nil => exact fun r h2 h3 => ⟨r, rfl, .inr ⟨h2, h3, by simp⟩⟩
        | cons x l ih =>
          intro r h2 h3
          show ∃ q, (if r - (x.length : Int) < 0 then some (-1) else G l (r - x.length)) = some q ∧ _
          by_cases hr : r - (x.length : Int) < 0
          · exact ⟨-1, by rw [if_pos hr], .inl (by omega)⟩
          · obtain ⟨q, q1, q2⟩ := ih (r - x.length) (by omega) (by omega)
            refine ⟨q, by rw [if_neg hr]; exact q1, q2.imp id fun q3 => ⟨q3.1, q3.2.1, fun y hy => ?_⟩⟩
            rcases List.mem_cons.1 hy with rfl | hy
            · omega
            · exact q3.2.2 y hy
      obtain ⟨q, q1, q2⟩ := key a (left - a.length) (by omega) (by omega)
      exact ⟨q, q1, q2.imp id fun q3 => ⟨q3.1, q3.2.1, by omega, q3.2.2⟩⟩
    · intro n pre x post r hax hr ih hg hlt
      have hw := w_succ (i := pre.length) (by omega)
      have hxl : x.length ≤ 140737488355328 := by have : List.length x ≤ 140737488351232 := hx x (by rw [hax]; simp); omega
      have hs : w_i64 (r - (x.length : Int)) = r - x.length := w_id (by omega) (by omega)
      show _ = (if r - (x.length : Int) < 0 then some (-1) else G post (r - x.length))
      by_cases hq : r - (x.length : Int) < 0
      · simp [laws_szStringS_l0, hlt, hg, hs, hq]
      · simp only [laws_szStringS_l0, hlt, hg, hs, hq, decide_true, if_true, Int.natCast_nonneg, Int.toNat_natCast, Option.bind_some, decide_false, Bool.false_eq_true, if_false, hw]
        exact ih _ ⟨by omega, by omega⟩
    · intro n r hr
      simp [laws_szStringS_l0, G]
/-- A mark is a text. -/
theorem markText_ok {k : Nat} (hk : KK ≤ k) {n : Int} (h : n ≤ 9223372036854775807) : ∃ t, laws_markText k n = some t := by
  unfold laws_markText
  by_cases h0 : n ≤ 0
  · exact ⟨[109, 48], by simp [h0]⟩
  · simp only [decide_eq_true_eq, h0, if_false]
    have key : ∀ (m : Nat) (n : Int) (out : List UInt8), 0 ≤ n → n < 10 ^ m → n ≤ 9223372036854775807 → out.length + m ≤ 100 → ∀ q, m < q → ∃ t, laws_markText_l0 k q n out (fun out_1 => (if [109].length + out_1.length ≤ 9223372036854775807 then some ([109] ++ out_1) else none)) = some t := by
      intro m
      induction m with
      | zero =>
        intro n out h1 h2 h3 h4 q hq
        obtain ⟨q, rfl⟩ : ∃ p, q = p + 1 := ⟨q - 1, by omega⟩
        have : ¬ 0 < n := by simp at h2; omega
        have h5 : 1 + out.length ≤ 9223372036854775807 := by omega
        exact ⟨[109] ++ out, by simp only [laws_markText_l0, decide_eq_true_eq, this, if_false, List.length_singleton, h5, if_true]⟩
      | succ m ih =>
        intro n out h1 h2 h3 h4 q hq
        obtain ⟨q, rfl⟩ : ∃ p, q = p + 1 := ⟨q - 1, by omega⟩
        by_cases hn : 0 < n
        · have hd : Int.tdiv n 10 = n / 10 := Int.tdiv_eq_ediv_of_nonneg h1
          have hw : w_i64 (Int.tdiv n 10) = n / 10 := by rw [hd, w_id (by omega) (by omega)]
          have h5 : 1 + out.length ≤ 9223372036854775807 := by omega
          have h6 : n / 10 < 10 ^ m := by
            rw [Int.pow_succ] at h2
            omega
          obtain ⟨t, ht⟩ := ih (n / 10) ((to_S [(w_u8 ((w_i64 (48 + (Int.tmod n 10)))))]) ++ out) (by omega) h6 (by omega) (by simp; omega) q (by omega)
          refine ⟨t, ?_⟩
          simp only [laws_markText_l0, decide_eq_true_eq, hn, if_true, hw]
          rw [if_pos (by simp; omega)]
          exact ht
        · have h5 : 1 + out.length ≤ 9223372036854775807 := by omega
          exact ⟨[109] ++ out, by simp only [laws_markText_l0, decide_eq_true_eq, hn, if_false, List.length_singleton, h5, if_true]⟩
    exact key 20 n [] (by omega) (by omega) h (by simp) k (by have := KK_def; omega)
/-- What was marked is held. -/
theorem markStringS_ok {k : Nat} (hk : KK ≤ k) {a : List (List UInt8)} {m : Int} (h0 : 0 ≤ m) (h1 : m ≤ 1000000000000) (ha : a.length ≤ 1000000000000) :
    ∃ q, laws_markStringS_o k m a = some ((m + a.length, ()), (q, ()), ()) ∧ laws_heldStringS k q m = some (m + a.length) := by
  have mt : ∀ i : Nat, i ≤ 2000000000000 → ∃ t, laws_markText k (m + i) = some t := fun i hi => markText_ok hk (by omega)
  let T : Nat → List UInt8 := fun i => (laws_markText k (m + i)).getD []
  have hT : ∀ i : Nat, i ≤ 2000000000000 → laws_markText k (m + i) = some (T i) := fun i hi => by
    obtain ⟨t, ht⟩ := mt i hi
    show _ = some ((laws_markText k (m + i)).getD [])
    rw [ht]; rfl
  refine ⟨(List.range a.length).map T, ?_, ?_⟩
  · unfold laws_markStringS_o
    have := loop_list (α := Nat) (A := List (List UInt8)) (L := fun n i q => laws_markStringS_o_l0 k n (m + i) i q fun k_6 q_7 => some ((k_6, ()), (q_7, ()), ()))
      (I := fun pre q => q.length = a.length ∧ q.take pre.length = (List.range pre.length).map T) (G := fun _ _ => some ((m + a.length, ()), ((List.range a.length).map T, ()), ())) (List.range a.length) ?_ ?_ k (by have := KK_def; simp; omega) a ⟨rfl, by simp⟩
    · simpa using this
    · intro n pre x post q hx hq ih hg hlt
      rw [List.length_range] at hlt
      have hw := w_succ (i := pre.length) (by omega)
      have hl : pre.length < q.length := by omega
      have hm : w_i64 (m + (pre.length : Int) + 1) = m + ((pre.length + 1 : Nat) : Int) := by rw [w_id (by omega) (by omega)]; omega
      have hlt' : (pre.length : Int) < (q.length : Int) := by omega
      simp only [laws_markStringS_o_l0, hlt', decide_true, if_true, hT pre.length (by omega), Option.bind_some, Int.natCast_nonneg, Int.toNat_natCast, hl, and_self, List.getElem?_eq_getElem hl, hm, hw]
      refine ih _ ⟨by rw [List.length_set]; exact hq.1, ?_⟩
      rw [List.length_append, List.length_singleton, List.take_succ_eq_append_getElem (by simpa using hl), List.getElem_set_self, List.take_set_of_le (Nat.le_refl _), hq.2, List.range_succ]
      simp
    · intro n q hq
      have : ¬ ((List.range a.length).length : Int) < (q.length : Int) := by rw [hq.1]; simp
      have h2 := hq.2
      rw [List.length_range, ← hq.1, List.take_length, hq.1] at h2
      simp only [laws_markStringS_o_l0, this, decide_false, Bool.false_eq_true, if_false]
      simp [h2]
  · unfold laws_heldStringS
    have := loop_list (α := List UInt8) (A := Unit) (L := fun n i _ => laws_heldStringS_l0 k n ((List.range a.length).map T) (m + i) i fun k_3 => some k_3) (I := fun _ _ => True) (G := fun _ _ => some (m + a.length)) ((List.range a.length).map T) ?_ ?_ k (by have := KK_def; simp; omega) () trivial
    · simpa using this
    · intro n pre x post _ hx _ ih hg hlt
      rw [List.length_map, List.length_range] at hlt
      have hw := w_succ (i := pre.length) (by omega)
      have hm : w_i64 (m + (pre.length : Int) + 1) = m + ((pre.length + 1 : Nat) : Int) := by rw [w_id (by omega) (by omega)]; omega
      have hxT : x = T pre.length := by
        rw [List.getElem?_map, List.getElem?_range (by omega)] at hg
        simpa using hg.symm
      have hlt' : (pre.length : Int) < (((List.range a.length).map T).length : Int) := by simp; omega
      simp only [laws_heldStringS_l0, hlt', decide_true, if_true, Int.natCast_nonneg, Int.toNat_natCast, hg, Option.bind_some, hT pre.length (by omega), hxT, Bool.not_true, Bool.false_eq_true, if_false, hm, hw]
      exact ih () trivial
    · intro n _ _
      simp [laws_heldStringS_l0]
/-- A picture. -/
def wid (lines : List (List UInt8)) : Nat := (lines.headD []).length
def okC (c : UInt8) : Bool := decide (32 ≤ c.toNat ∧ c.toNat ≤ 126)
def okLine (w : Nat) (l : List UInt8) : Bool := decide (l.length = w) && (decide (l.length ≤ 80) && l.all okC)
def okPic (lines : List (List UInt8)) : Bool := lines.all (okLine (wid lines)) && decide (lines.length ≤ 60)
theorem wid_get {lines : List (List UInt8)} {i : Nat} {x : List UInt8} (h : lines[i]? = some x) : ∃ y, lines[0]? = some y ∧ y.length = wid lines := by
  cases lines with
  | nil => simp at h
  | cons y l => exact ⟨y, rfl, rfl⟩
theorem l30Ok_ok {k : Nat} (hk : KK ≤ k) {a : List (List UInt8)} (ha : a.length ≤ 1000000000000) (hx : ∀ x ∈ a, x.length ≤ 1000000000000) : spec_l30Ok k a = some (okPic a) := by
  unfold spec_l30Ok
  have hK := KK_def
  have := loop_all (L := fun n i => spec_l30Ok_l0 k n a i fun lines_6 => some (decide ((List.length lines_6 : Int) ≤ 60))) (p := okLine (wid a)) (r := some false) (e := some (decide (a.length ≤ 60))) a ?_ ?_ (n := k) (by omega)
  · refine Eq.trans this ?_
    unfold okPic
    cases a.all (okLine (wid a)) <;> rfl
  · intro n i x hi hlt
    have hxl := hx x (List.mem_of_getElem? hi)
    have hw := w_succ (i := i) (by omega)
    obtain ⟨y, h0, hy⟩ := wid_get hi
    have inner := loop_all (L := fun m j => spec_l30Ok_l1 k m a (i : Int) j fun lines_4 i_5 => spec_l30Ok_l0 k n lines_4 (w_i64 (i_5 + 1)) fun lines_6 => some (decide ((List.length lines_6 : Int) ≤ 60)))
      (p := okC) (r := some false) (e := spec_l30Ok_l0 k n a ((i + 1 : Nat) : Int) fun lines_6 => some (decide ((List.length lines_6 : Int) ≤ 60))) x ?_ ?_ (n := k) (by omega)
    · simp only [spec_l30Ok_l0, hlt, decide_true, if_true, Int.natCast_nonneg, Int.toNat_natCast, hi, h0, Option.bind_some]
      unfold okLine
      by_cases h1 : x.length = wid a
      · have h1' : (x.length : Int) = (y.length : Int) := by omega
        by_cases h2 : x.length ≤ 80
        · have h2' : ¬ (80 < (x.length : Int)) := by omega
          have e1 : (decide (x.length = wid a) && (decide (x.length ≤ 80) && x.all okC)) = x.all okC := by simp [h1, h2]; omega
          rw [decide_eq_true h1', if_neg (by simp), decide_eq_false h2', if_neg (by simp), e1]
          exact inner
        · have h2' : (80 < (x.length : Int)) := by omega
          rw [decide_eq_true h1', if_neg (by simp), decide_eq_true h2', if_pos rfl, decide_eq_false h2, if_neg (by simp)]
      · have h1' : ¬ (x.length : Int) = (y.length : Int) := by omega
        rw [decide_eq_false h1', if_pos (by simp), decide_eq_false h1, if_neg (by simp)]
    · intro m j c hj hjlt
      have hw2 := w_succ (i := j) (by omega)
      simp only [spec_l30Ok_l1, hjlt, decide_true, if_true, Int.natCast_nonneg, Int.toNat_natCast, hi, hj, Option.bind_some, hw2]
      unfold okC z_u8
      by_cases h3 : c.toNat < 32
      · rw [decide_eq_true (by omega), if_pos rfl, if_neg (by simp; omega)]
      · rw [decide_eq_false (by omega), if_neg (by simp)]
        by_cases h4 : 126 < c.toNat
        · rw [decide_eq_true (by omega), if_pos rfl, if_neg (by simp; omega)]
        · rw [decide_eq_false (by omega), if_neg (by simp), if_pos (by simp; omega)]
    · intro m
      simp [spec_l30Ok_l1, hi, hw]
  · intro n
    simp only [spec_l30Ok_l0, Int.lt_irrefl, decide_false, Bool.false_eq_true, if_false]
    exact congrArg some (decide_eq_decide.2 (by omega))
theorem widthOf_ok (a : List (List UInt8)) : impl_widthOf a = some (wid a : Int) := by
  unfold impl_widthOf
  cases a with
  | nil => rfl
  | cons x l =>
    have : ¬ ((x :: l).length : Int) = 0 := by simp only [List.length_cons]; omega
    rw [decide_eq_false this, if_neg (by simp)]
    rfl
theorem badChar_ok {k : Nat} (hk : KK ≤ k) {s : List UInt8} (hs : s.length ≤ 1000000000000) : slices_ContainsFunc_byte__impl_ValidPicture_1 k (of_S s) () = some (!s.all okC) := by
  have hK := KK_def
  have hl : (of_S s).length = s.length := by simp [of_S]
  have key : slices_IndexFunc_byte__impl_ValidPicture_1 k (of_S s) () = some (idxP (fun c : Int => decide (c < 32 ∨ 126 < c)) (of_S s)) := by
    unfold slices_IndexFunc_byte__impl_ValidPicture_1
    refine loop_find (L := fun n i => slices_IndexFunc_byte__impl_ValidPicture_1_l0 k n (of_S s) () ((of_S s).length : Int) i (some (-1))) (of_S s) ?_ ?_ (n := k) (by omega)
    · intro n i x hi hlt
      have hw := w_succ (i := i) (by omega)
      simp only [slices_IndexFunc_byte__impl_ValidPicture_1_l0, impl_ValidPicture_1, hlt, decide_true, if_true, Int.natCast_nonneg, Int.toNat_natCast, hi, Option.bind_some, hw]
      by_cases h1 : x < 32
      · simp [h1]
      · by_cases h2 : 126 < x <;> simp [h1, h2]
    · intro n
      simp [slices_IndexFunc_byte__impl_ValidPicture_1_l0]
  unfold slices_ContainsFunc_byte__impl_ValidPicture_1
  rw [key]
  simp only [Option.bind_some, idxP_any, Option.some.injEq]
  clear key hl hs
  induction s with
  | nil => rfl
  | cons c s ih =>
    have h : of_S (c :: s) = z_u8 c :: of_S s := rfl
    rw [h, List.any_cons, List.all_cons, ih]
    have : (decide (z_u8 c < 32 ∨ 126 < z_u8 c)) = !okC c := by
      unfold z_u8 okC
      rw [← decide_not]
      exact decide_eq_decide.2 (by omega)
    rw [this, Bool.not_and]
theorem implValidPicture_ok {k : Nat} (hk : KK ≤ k) {a : List (List UInt8)} (ha : a.length ≤ 1000000000000) (hx : ∀ x ∈ a, x.length ≤ 1000000000000) : impl_ValidPicture k a = some (okPic a) := by
  have hK := KK_def
  have hL := LIM_def
  unfold impl_ValidPicture
  have := loop_all (L := fun n i => impl_ValidPicture_l0 k n a a (a.length : Int) i fun lines_4 => (if (decide ((List.length lines_4 : Int) ≤ 60)) = true then (impl_widthOf lines_4).bind fun r_5 => some (decide (r_5 ≤ 80)) else some false))
    (p := fun l => decide (l.length = wid a) && l.all okC) (r := some false) (e := some (decide (a.length ≤ 60) && decide (wid a ≤ 80))) a ?_ ?_ (n := k) (by omega)
  · refine Eq.trans this ?_
    have h1 : ∀ w : Nat, (a.all (okLine w)) = ((a.all fun l => decide (l.length = w) && l.all okC) && (a.isEmpty || decide (w ≤ 80))) := by
      intro w
      clear this ha hx
      induction a with
      | nil => rfl
      | cons x l ih =>
        simp only [List.all_cons, ih, List.isEmpty_cons, Bool.false_or, okLine]
        by_cases h1 : x.length = w
        · subst h1
          by_cases h2 : x.length ≤ 80
          · simp [h2]
          · simp [h2]
        · simp [h1]
    unfold okPic
    rw [h1]
    cases a with
    | nil => rfl
    | cons x l =>
      simp only [List.isEmpty_cons, Bool.false_or]
      cases ((x :: l).all fun l_1 => decide (l_1.length = wid (x :: l)) && l_1.all okC)
      · rfl
      · simp only [if_true, Bool.true_and]; rw [Bool.and_comm]
  · intro n i x hi hlt
    have hxl := hx x (List.mem_of_getElem? hi)
    have hw := w_succ (i := i) (by omega)
    have h2 : x.length ≤ LIM := by omega
    simp only [impl_ValidPicture_l0, hlt, decide_true, if_true, Int.natCast_nonneg, Int.toNat_natCast, hi, Option.bind_some, widthOf_ok, h2, badChar_ok hk hxl, hw]
    by_cases h1 : x.length = wid a
    · rw [decide_eq_true (show (x.length : Int) = (wid a : Int) by omega), if_neg (by simp), decide_eq_true h1, Bool.true_and]
      cases x.all okC <;> simp
    · rw [decide_eq_false (show ¬ (x.length : Int) = (wid a : Int) by omega), if_pos (by simp), decide_eq_false h1, if_neg (by simp)]
  · intro n
    simp only [impl_ValidPicture_l0, Int.lt_irrefl, decide_false, Bool.false_eq_true, if_false, widthOf_ok, Option.bind_some]
    have e2 : decide ((wid a : Int) ≤ 80) = decide (wid a ≤ 80) := decide_eq_decide.2 (by omega)
    by_cases h : a.length ≤ 60
    · rw [decide_eq_true (show (a.length : Int) ≤ 60 by omega), if_pos rfl, decide_eq_true h, Bool.true_and, e2]
    · rw [decide_eq_false (show ¬ (a.length : Int) ≤ 60 by omega), if_neg (by simp), decide_eq_false h, Bool.false_and]
theorem okPic_spec {lines : List (List UInt8)} (h : okPic lines = true) : lines.length ≤ 60 ∧ ∀ l ∈ lines, l.length = wid lines ∧ l.length ≤ 80 := by
  unfold okPic okLine at h
  simp only [Bool.and_eq_true, List.all_eq_true, decide_eq_true_eq] at h
  exact ⟨h.2, fun l hl => ⟨(h.1 l hl).1, (h.1 l hl).2.1⟩⟩
theorem within_ok (n a b : Int) : impl_within n a b = some (decide (a ≤ n ∧ n ≤ b)) := by
  unfold impl_within
  by_cases h : a ≤ n <;> simp [h]
theorem l00In_ok (n a b : Int) : spec_l00In n a b = some (decide (a ≤ n ∧ n ≤ b)) := by
  unfold spec_l00In
  by_cases h : a ≤ n <;> simp [h]
def cropL (X Wd : Nat) (l : List UInt8) : List UInt8 := (l.drop X).take Wd
def cropIn (lines : List (List UInt8)) (x y w h : Int) : Bool := decide (0 ≤ x ∧ x ≤ wid lines) && (decide (0 ≤ w ∧ w ≤ wid lines - x) && (decide (0 ≤ y ∧ y ≤ lines.length) && decide (0 ≤ h ∧ h ≤ lines.length - y)))
def cropP (lines : List (List UInt8)) (x y w h : Int) : List (List UInt8) × Int :=
  if okPic lines = true then (if cropIn lines x y w h = true then (((lines.drop y.toNat).take h.toNat).map (cropL x.toNat w.toNat), 0) else ([], 2)) else ([], 1)
theorem specCrop_loop {k : Nat} (hk : KK ≤ k) {lines : List (List UInt8)} (ho : okPic lines = true) {X Y Wd Hg : Nat} (h1 : X + Wd ≤ wid lines) (h2 : Y + Hg ≤ lines.length) :
    spec_CropPicture_l0 k k lines X Y Wd Hg 0 [] (fun q_9 => some (q_9, 0)) = some (((lines.drop Y).take Hg).map (cropL X Wd), 0) := by
  have hK := KK_def
  have hL := LIM_def
  obtain ⟨ho1, ho2⟩ := okPic_spec ho
  have hlen : ((lines.drop Y).take Hg).length = Hg := by simp; omega
  have := loop_list (L := fun n i q => spec_CropPicture_l0 k n lines X Y Wd Hg i q (fun q_9 => some (q_9, (0 : Int)))) (I := fun pre q => q = pre.map (cropL X Wd)) (G := fun post q => some (q ++ post.map (cropL X Wd), (0 : Int))) ((lines.drop Y).take Hg) ?_ ?_ k (by omega) [] rfl
  · simpa using this
  · intro n pre l post q hx hq ih hg hlt
    subst hq
    rw [hlen] at hlt
    have hw := w_succ (i := pre.length) (by omega)
    have hY : w_i64 ((Y : Int) + (pre.length : Int)) = ((Y + pre.length : Nat) : Int) := by rw [w_id (by omega) (by omega)]; omega
    have hX : w_i64 ((X : Int) + (Wd : Int)) = ((X + Wd : Nat) : Int) := by
      have : wid lines ≤ 80 ∨ lines = [] := by
        cases lines with
        | nil => exact .inr rfl
        | cons z zs => exact .inl (by have := ho2 z (by simp); omega)
      have : wid lines ≤ 80 := by rcases this with h | h; exact h; subst h; exact Nat.zero_le _
      rw [w_id (by omega) (by omega)]; omega
    have hgl : lines[Y + pre.length]? = some l := by
      rw [List.getElem?_take_of_lt (by omega), List.getElem?_drop] at hg
      exact hg
    have hl := ho2 l (List.mem_of_getElem? hgl)
    have hlt2 : (pre.length : Int) < (Hg : Int) := by omega
    simp only [spec_CropPicture_l0, hlt2, decide_true, if_true, hY, hX, Int.natCast_nonneg, Int.toNat_natCast, hgl, Option.bind_some, hw]
    rw [if_pos ⟨trivial, by omega, by omega⟩, if_pos (by simp only [List.length_map, List.length_singleton]; omega), Nat.add_sub_cancel_left]
    have := ih (pre.map (cropL X Wd) ++ [cropL X Wd l]) (by simp)
    rw [List.map_cons, ← List.append_cons] at *
    exact this
  · intro n q hq
    subst hq
    have h9 : ¬ (((lines.drop Y).take Hg).length : Int) < (Hg : Int) := by omega
    simp only [spec_CropPicture_l0, h9, decide_false, Bool.false_eq_true, if_false, List.map_nil, List.append_nil]
theorem implCrop_loop {k : Nat} (hk : KK ≤ k) {ys : List (List UInt8)} {X Wd : Nat} (h0 : ys.length ≤ 60) (h1 : ∀ l ∈ ys, X + Wd ≤ l.length ∧ l.length ≤ 80) :
    impl_CropPicture_l0 k k X Wd ys (ys.length : Int) 0 [] (fun q_9 => some (q_9, 0)) = some (ys.map (cropL X Wd), 0) := by
  have hK := KK_def
  have hL := LIM_def
  have := loop_list (L := fun n i q => impl_CropPicture_l0 k n X Wd ys (ys.length : Int) i q (fun q_9 => some (q_9, (0 : Int)))) (I := fun pre q => q = pre.map (cropL X Wd)) (G := fun post q => some (q ++ post.map (cropL X Wd), (0 : Int))) ys ?_ ?_ k (by omega) [] rfl
  · simpa using this
  · intro n pre l post q hx hq ih hg hlt
    subst hq
    have hw := w_succ (i := pre.length) (by omega)
    have hl := h1 l (List.mem_of_getElem? hg)
    have hX : w_i64 ((X : Int) + (Wd : Int)) = ((X + Wd : Nat) : Int) := by rw [w_id (by omega) (by omega)]; omega
    simp only [impl_CropPicture_l0, hlt, decide_true, if_true, hX, Int.natCast_nonneg, Int.toNat_natCast, hg, Option.bind_some, hw]
    rw [if_pos ⟨trivial, by omega, by omega⟩, if_pos (by simp only [List.length_map, List.length_singleton]; omega), Nat.add_sub_cancel_left]
    have := ih (pre.map (cropL X Wd) ++ [cropL X Wd l]) (by simp)
    rw [List.map_cons, ← List.append_cons] at *
    exact this
  · intro n q hq
    subst hq
    simp only [impl_CropPicture_l0, Int.lt_irrefl, decide_false, Bool.false_eq_true, if_false, List.map_nil, List.append_nil]
theorem cropIn_nat {lines : List (List UInt8)} {x y w h : Int} (hc : cropIn lines x y w h = true) : ∃ X Y Wd Hg : Nat, x = X ∧ y = Y ∧ w = Wd ∧ h = Hg ∧ X + Wd ≤ wid lines ∧ Y + Hg ≤ lines.length := by
  unfold cropIn at hc
  simp only [Bool.and_eq_true, decide_eq_true_eq] at hc
  exact ⟨x.toNat, y.toNat, w.toNat, h.toNat, by omega, by omega, by omega, by omega, by omega, by omega⟩
theorem specCrop_ok {k : Nat} (hk : KK ≤ k) {a : List (List UInt8)} (ha : a.length ≤ 1000000000000) (hx : ∀ x ∈ a, x.length ≤ 1000000000000) (x y w h : Int) : spec_CropPicture k a x y w h = some (cropP a x y w h) := by
  unfold spec_CropPicture cropP
  rw [l30Ok_ok hk ha hx]
  simp only [Option.bind_some, l00In_ok]
  cases ho : okPic a with
  | false => simp
  | true =>
    obtain ⟨ho1, ho2⟩ := okPic_spec ho
    simp only [Bool.not_true, Bool.false_eq_true, if_false, if_true]
    have hwid : wid a ≤ 80 := by
      cases a with
      | nil => exact Nat.zero_le _
      | cons z zs => have := ho2 z (by simp); omega
    have main : ∀ W0 : Int, W0 = (wid a : Int) → (if (!decide (0 ≤ x ∧ x ≤ W0)) = true then some (([] : List (List UInt8)), (2 : Int)) else if (!decide (0 ≤ w ∧ w ≤ w_i64 (W0 - x))) = true then some ([], 2) else if (!decide (0 ≤ y ∧ y ≤ (a.length : Int))) = true then some ([], 2) else if (!decide (0 ≤ h ∧ h ≤ w_i64 ((a.length : Int) - y))) = true then some ([], 2) else spec_CropPicture_l0 k k a x y w h 0 [] (fun q_9 => some (q_9, 0))) =
        some (if cropIn a x y w h = true then (((a.drop y.toNat).take h.toNat).map (cropL x.toNat w.toNat), 0) else ([], 2)) := by
      intro W0 hW
      subst hW
      by_cases q1 : 0 ≤ x ∧ x ≤ (wid a : Int)
      · have e1 : w_i64 ((wid a : Int) - x) = (wid a : Int) - x := w_id (by omega) (by omega)
        by_cases q2 : 0 ≤ w ∧ w ≤ (wid a : Int) - x
        · by_cases q3 : 0 ≤ y ∧ y ≤ (a.length : Int)
          · have e2 : w_i64 ((a.length : Int) - y) = (a.length : Int) - y := w_id (by omega) (by omega)
            by_cases q4 : 0 ≤ h ∧ h ≤ (a.length : Int) - y
            · have hc : cropIn a x y w h = true := by unfold cropIn; simp [q1, q2, q3, q4]
              rw [e1, e2, decide_eq_true q1, decide_eq_true q2, decide_eq_true q3, decide_eq_true q4, if_pos hc]
              obtain ⟨X, Y, Wd, Hg, rfl, rfl, rfl, rfl, b1, b2⟩ := cropIn_nat hc
              simp only [Bool.not_true, Bool.false_eq_true, if_false, Int.toNat_natCast]
              exact specCrop_loop hk ho b1 b2
            · have hc : cropIn a x y w h = false := by unfold cropIn; rw [decide_eq_false q4]; simp
              rw [e1, e2, decide_eq_true q1, decide_eq_true q2, decide_eq_true q3, decide_eq_false q4, hc]; simp
          · have hc : cropIn a x y w h = false := by unfold cropIn; rw [decide_eq_false q3]; simp
            rw [e1, decide_eq_true q1, decide_eq_true q2, decide_eq_false q3, hc]; simp
        · have hc : cropIn a x y w h = false := by unfold cropIn; rw [decide_eq_false q2]; simp
          rw [e1, decide_eq_true q1, decide_eq_false q2, hc]; simp
      · have hc : cropIn a x y w h = false := by unfold cropIn; rw [decide_eq_false q1]; simp
        rw [decide_eq_false q1, hc]; simp
    cases a with
    | nil =>
      have : ¬ (0 : Int) < (([] : List (List UInt8)).length : Int) := by simp
      rw [decide_eq_false this, if_neg (by simp)]
      exact main 0 rfl
    | cons z zs =>
      have : (0 : Int) < ((z :: zs).length : Int) := by simp only [List.length_cons]; omega
      rw [decide_eq_true this, if_pos rfl]
      exact main _ rfl
theorem implCrop_ok {k : Nat} (hk : KK ≤ k) {a : List (List UInt8)} (ha : a.length ≤ 1000000000000) (hx : ∀ x ∈ a, x.length ≤ 1000000000000) (x y w h : Int) : impl_CropPicture k a x y w h = some (cropP a x y w h) := by
  unfold impl_CropPicture cropP impl_size_string
  rw [implValidPicture_ok hk ha hx]
  simp only [Option.bind_some, within_ok, widthOf_ok]
  cases ho : okPic a with
  | false => simp
  | true =>
    obtain ⟨ho1, ho2⟩ := okPic_spec ho
    simp only [Bool.not_true, Bool.false_eq_true, if_false, if_true]
    have hwid : wid a ≤ 80 := by
      cases a with
      | nil => exact Nat.zero_le _
      | cons z zs => have := ho2 z (by simp); omega
    by_cases q1 : 0 ≤ x ∧ x ≤ (wid a : Int)
    · have e1 : w_i64 ((wid a : Int) - x) = (wid a : Int) - x := w_id (by omega) (by omega)
      by_cases q2 : 0 ≤ w ∧ w ≤ (wid a : Int) - x
      · by_cases q3 : 0 ≤ y ∧ y ≤ (a.length : Int)
        · have e2 : w_i64 ((a.length : Int) - y) = (a.length : Int) - y := w_id (by omega) (by omega)
          by_cases q4 : 0 ≤ h ∧ h ≤ (a.length : Int) - y
          · have hc : cropIn a x y w h = true := by unfold cropIn; simp [q1, q2, q3, q4]
            rw [e1, e2, decide_eq_true q1, decide_eq_true q2, decide_eq_true q3, decide_eq_true q4, if_pos hc]
            obtain ⟨X, Y, Wd, Hg, rfl, rfl, rfl, rfl, b1, b2⟩ := cropIn_nat hc
            have e3 : w_i64 ((Y : Int) + (Hg : Int)) = ((Y + Hg : Nat) : Int) := by rw [w_id (by omega) (by omega)]; omega
            simp only [Bool.not_true, Bool.false_eq_true, if_false, Int.toNat_natCast, e3, Nat.add_sub_cancel_left]
            rw [if_pos ⟨by omega, by omega, by omega⟩]
            exact implCrop_loop hk (by simp; omega) (fun l hl => by have := ho2 l (List.mem_of_mem_drop (List.mem_of_mem_take hl)); omega)
          · have hc : cropIn a x y w h = false := by unfold cropIn; rw [decide_eq_false q4]; simp
            rw [e1, e2, decide_eq_true q1, decide_eq_true q2, decide_eq_true q3, decide_eq_false q4, hc]; simp
        · have hc : cropIn a x y w h = false := by unfold cropIn; rw [decide_eq_false q3]; simp
          rw [e1, decide_eq_true q1, decide_eq_true q2, decide_eq_false q3, hc]; simp
      · have hc : cropIn a x y w h = false := by unfold cropIn; rw [decide_eq_false q2]; simp
        rw [e1, decide_eq_true q1, decide_eq_false q2, hc]; simp
    · have hc : cropIn a x y w h = false := by unfold cropIn; rw [decide_eq_false q1]; simp
      rw [decide_eq_false q1, hc]; simp
theorem cropP_len (a : List (List UInt8)) (x y w h : Int) : (cropP a x y w h).1.length ≤ a.length := by
  unfold cropP
  split
  · split
    · simp; omega
    · simp
  · simp
theorem pure_FnExactCropPicture {e : TypeId} (a0 : List (List UInt8)) (a1 a2 a3 a4 : Int) (f0 : InR (.sl e .str) a0) (f1 : InR (.int .i64) a1) (f2 : InR (.int .i64) a2) (f3 : InR (.int .i64) a3) (f4 : InR (.int .i64) a4) : ∃ k : Nat, laws_FnExactCropPicture k a0 a1 a2 a3 a4 = some true := by
  have hk := Nat.le_refl KK
  refine ⟨KK, ?_⟩
  obtain ⟨r, hr, h⟩ := szStringS_ok hk (a := a0) (left := 1048576) (by omega) (by omega) f0
  unfold laws_FnExactCropPicture
  rw [hr]; simp only [Option.bind_some]
  rcases h with h | ⟨h1, h2, h3, h4⟩
  · rw [decide_eq_true h, if_pos rfl]
  · rw [decide_eq_false (by omega), if_neg (by simp)]
    have hx : ∀ x ∈ a0, x.length ≤ 1000000000000 := fun x hx => Nat.le_trans (h4 x hx) (by omega)
    have hl := cropP_len a0 a1 a2 a3 a4
    obtain ⟨q, q1, q2⟩ := markStringS_ok hk (a := a0) (m := 1) (by omega) (by omega) (by omega)
    obtain ⟨q', q1', q2'⟩ := markStringS_ok hk (a := (cropP a0 a1 a2 a3 a4).1) (m := 1) (by omega) (by omega) (by omega)
    have hn : ¬ (1 + (a0.length : Int) < 0) := by omega
    have hn' : ¬ (1 + ((cropP a0 a1 a2 a3 a4).1.length : Int) < 0) := by omega
    simp only [toStringS_ok hk h3, Option.bind_some, specCrop_ok hk (show a0.length ≤ 1000000000000 by omega) hx, implCrop_ok hk (show a0.length ≤ 1000000000000 by omega) hx, eqStringS_ok hk (show (cropP a0 a1 a2 a3 a4).1.length < 4611686018427387904 by omega), eqStringS_ok hk (show a0.length < 4611686018427387904 by omega), decide_true, Bool.not_true, Bool.false_eq_true, if_false, q1, q2, q1', q2', hn, hn', decide_false]
end Go.Proofs.Ytlcophcnioaaoaa.Ev
