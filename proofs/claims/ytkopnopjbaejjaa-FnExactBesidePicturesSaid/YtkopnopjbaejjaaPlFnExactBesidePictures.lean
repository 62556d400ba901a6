/- Plain laws of the printed functions. No conditions but those in each statement. -/
import Derived.Test.YtkopnopjbaejjaaEv4
import Derived.Test.YtkopnopjbaejjaaG5
set_option linter.unusedVariables false
set_option linter.unusedSimpArgs false
namespace Go.Proofs.Ytkopnopjbaejjaa.Ev
open Go.RowKit
theorem eqStringS_ok {k : Nat} (hk : KK ≤ k) {a b : List (List UInt8)} (ha : a.length < 4611686018427387904) : laws_eqStringS k a b = some (decide (a = b)) := by
  unfold laws_eqStringS
  by_cases hl : a.length = b.length
  · rw [if_neg (by simp [hl])]
    refine loop_eq (L := fun n i => laws_eqStringS_l0 k n a b i (some true)) a b hl ?_ ?_ (n := k) (by have := KK_def; omega)
    · intro n i x y hx hy hlt
      have hw := w_succ (i := i) (by omega)
      by_cases e : x = y <;> simp [laws_eqStringS_l0, hlt, hx, hy, hw, e]
    · intro n
      simp [laws_eqStringS_l0]
  · have h2 : a ≠ b := fun e => hl (by rw [e])
    have h3 : ¬ (a.length : Int) = b.length := by omega
    simp [h3, h2]
theorem toStringS_ok {k : Nat} (hk : KK ≤ k) {a : List (List UInt8)} (ha : a.length ≤ 1048576) : laws_toStringS k a = some a := by
  unfold laws_toStringS
  have hL := LIM_def
  rw [if_pos ⟨by omega, Int.le_refl _, by omega⟩]
  refine loop_copy (L := fun n i q => laws_toStringS_l0 k n a i q fun q_5 => some q_5) (e := fun q => some q) a _ (by simp) ?_ ?_ (n := k) (by have := KK_def; omega)
  · intro n i x q hx hlt hq
    have hw := w_succ (i := i) (by omega)
    have hi : i < q.length := by omega
    simp [laws_toStringS_l0, hlt, hx, hw, hi]
  · intro n q
    simp [laws_toStringS_l0]
/-- The size asked for: it fits and leaves something, or it does not. -/
theorem szStringS_ok {k : Nat} (hk : KK ≤ k) {a : List (List UInt8)} {e : TypeId} {left : Int} (h0 : 0 ≤ left) (h1 : left ≤ 1048576) (ha : InR (.sl e .str) a) : ∃ r, laws_szStringS k a left = some r ∧ (r < 0 ∨ (0 ≤ r ∧ r ≤ left ∧ a.length ≤ 1048576 ∧ ∀ x ∈ a, x.length ≤ 1048576)) := by
  obtain ⟨hl, hx⟩ := ha
  unfold laws_szStringS
  rw [w_id (by omega) (by omega)]
  by_cases h : left - (a.length : Int) < 0
  · exact ⟨-1, by simp [h], .inl (by omega)⟩
  · simp only [decide_eq_true_eq, h, if_false]
    let G : List (List UInt8) → Int → Option Int := fun l r => l.foldr (fun x k r => if r - (x.length : Int) < 0 then some (-1) else k (r - x.length)) (fun r => some r) r
    have := loop_list (L := fun n i r => laws_szStringS_l0 k n a r i fun left => some left) (I := fun pre r => r ≤ left ∧ 0 ≤ r) (G := G) a ?_ ?_ k (by have := KK_def; omega) (left - a.length) ⟨by omega, by omega⟩
    · rw [this]
      have key : ∀ (l : List (List UInt8)) (r : Int), 0 ≤ r → r ≤ left → ∃ q, G l r = some q ∧ (q < 0 ∨ (0 ≤ q ∧ q ≤ left ∧ ∀ x ∈ l, x.length ≤ 1048576)) := by
        intro l
        induction l with
        | nil => exact fun r h2 h3 => ⟨r, rfl, .inr ⟨h2, h3, by simp⟩⟩
        | cons x l ih =>
          intro r h2 h3
          show ∃ q, (if r - (x.length : Int) < 0 then some (-1) else G l (r - x.length)) = some q ∧ _
          by_cases hr : r - (x.length : Int) < 0
          · exact ⟨-1, by rw [if_pos hr], .inl (by omega)⟩
          · obtain ⟨q, q1, q2⟩ := ih (r - x.length) (by omega) (by omega)
            refine ⟨q, by rw [if_neg hr]; exact q1, q2.imp id fun q3 => ⟨q3.1, q3.2.1, fun y hy => ?_⟩⟩
            rcases List.mem_cons.1 hy with rfl | hy
            · omega
            · exact q3.2.2 y hy
      obtain ⟨q, q1, q2⟩ := key a (left - a.length) (by omega) (by omega)
      exact ⟨q, q1, q2.imp id fun q3 => ⟨q3.1, q3.2.1, by omega, q3.2.2⟩⟩
    · intro n pre x post r hax hr ih hg hlt
      have hw := w_succ (i := pre.length) (by omega)
      have hxl : x.length ≤ 140737488355328 := by have : List.length x ≤ 140737488351232 := hx x (by rw [hax]; simp); omega
      have hs : w_i64 (r - (x.length : Int)) = r - x.length := w_id (by omega) (by omega)
      show _ = (if r - (x.length : Int) < 0 then some (-1) else G post (r - x.length))
      by_cases hq : r - (x.length : Int) < 0
      · simp [laws_szStringS_l0, hlt, hg, hs, hq]
      · simp only [laws_szStringS_l0, hlt, hg, hs, hq, decide_true, if_true, Int.natCast_nonneg, Int.toNat_natCast, Option.bind_some, decide_false, Bool.false_eq_true, if_false, hw]
        exact ih _ ⟨by omega, by omega⟩
    · intro n r hr
      simp [laws_szStringS_l0, G]
/-- A mark is a text. -/
theorem markText_ok {k : Nat} (hk : KK ≤ k) {n : Int} (h : n ≤ 9223372036854775807) : ∃ t, laws_markText k n = some t := by
  unfold laws_markText
  by_cases h0 : n ≤ 0
  · exact ⟨[109, 48], by simp [h0]⟩
  · simp only [decide_eq_true_eq, h0, if_false]
    have key : ∀ (m : Nat) (n : Int) (out : List UInt8), 0 ≤ n → n < 10 ^ m → n ≤ 9223372036854775807 → out.length + m ≤ 100 → ∀ q, m < q → ∃ t, laws_markText_l0 k q n out (fun out_1 => (if [109].length + out_1.length ≤ 9223372036854775807 then some ([109] ++ out_1) else none)) = some t := by
      intro m
      induction m with
      | zero =>
        intro n out h1 h2 h3 h4 q hq
        obtain ⟨q, rfl⟩ : ∃ p, q = p + 1 := ⟨q - 1, by omega⟩
        have : ¬ 0 < n := by simp at h2; omega
        have h5 : 1 + out.length ≤ 9223372036854775807 := by omega
        exact ⟨[109] ++ out, by simp only [laws_markText_l0, decide_eq_true_eq, this, if_false, List.length_singleton, h5, if_true]⟩
      | succ m ih =>
        intro n out h1 h2 h3 h4 q hq
        obtain ⟨q, rfl⟩ : ∃ p, q = p + 1 := ⟨q - 1, by omega⟩
        by_cases hn : 0 < n
        · have hd : Int.tdiv n 10 = n / 10 := Int.tdiv_eq_ediv_of_nonneg h1
          have hw : w_i64 (Int.tdiv n 10) = n / 10 := by rw [hd, w_id (by omega) (by omega)]
          have h5 : 1 + out.length ≤ 9223372036854775807 := by omega
          have h6 : n / 10 < 10 ^ m := by
            rw [Int.pow_succ] at h2
            omega
          obtain ⟨t, ht⟩ := ih (n / 10) ((to_S [(w_u8 ((w_i64 (48 + (Int.tmod n 10)))))]) ++ out) (by omega) h6 (by omega) (by simp; omega) q (by omega)
          refine ⟨t, ?_⟩
          simp only [laws_markText_l0, decide_eq_true_eq, hn, if_true, hw]
          rw [if_pos (by simp; omega)]
          exact ht
        · have h5 : 1 + out.length ≤ 9223372036854775807 := by omega
          exact ⟨[109] ++ out, by simp only [laws_markText_l0, decide_eq_true_eq, hn, if_false, List.length_singleton, h5, if_true]⟩
    exact key 20 n [] (by omega) (by omega) h (by simp) k (by have := KK_def; omega)
/-- What was marked is held. -/
theorem markStringS_ok {k : Nat} (hk : KK ≤ k) {a : List (List UInt8)} {m : Int} (h0 : 0 ≤ m) (h1 : m ≤ 1000000000000) (ha : a.length ≤ 1000000000000) :
    ∃ q, laws_markStringS_o k m a = some ((m + a.length, ()), (q, ()), ()) ∧ laws_heldStringS k q m = some (m + a.length) := by
  have mt : ∀ i : Nat, i ≤ 2000000000000 → ∃ t, laws_markText k (m + i) = some t := fun i hi => markText_ok hk (by omega)
  let T : Nat → List UInt8 := fun i => (laws_markText k (m + i)).getD []
  have hT : ∀ i : Nat, i ≤ 2000000000000 → laws_markText k (m + i) = some (T i) := fun i hi => by
    obtain ⟨t, ht⟩ := mt i hi
    show _ = some ((laws_markText k (m + i)).getD [])
    rw [ht]; rfl
  refine ⟨(List.range a.length).map T, ?_, ?_⟩
  · unfold laws_markStringS_o
    have := loop_list (α := Nat) (A := List (List UInt8)) (L := fun n i q => laws_markStringS_o_l0 k n (m + i) i q fun k_6 q_7 => some ((k_6, ()), (q_7, ()), ()))
      (I := fun pre q => q.length = a.length ∧ q.take pre.length = (List.range pre.length).map T) (G := fun _ _ => some ((m + a.length, ()), ((List.range a.length).map T, ()), ())) (List.range a.length) ?_ ?_ k (by have := KK_def; simp; omega) a ⟨rfl, by simp⟩
    · simpa using this
    · intro n pre x post q hx hq ih hg hlt
      rw [List.length_range] at hlt
      have hw := w_succ (i := pre.length) (by omega)
      have hl : pre.length < q.length := by omega
      have hm : w_i64 (m + (pre.length : Int) + 1) = m + ((pre.length + 1 : Nat) : Int) := by rw [w_id (by omega) (by omega)]; omega
      have hlt' : (pre.length : Int) < (q.length : Int) := by omega
      simp only [laws_markStringS_o_l0, hlt', decide_true, if_true, hT pre.length (by omega), Option.bind_some, Int.natCast_nonneg, Int.toNat_natCast, hl, and_self, List.getElem?_eq_getElem hl, hm, hw]
      refine ih _ ⟨by rw [List.length_set]; exact hq.1, ?_⟩
      rw [List.length_append, List.length_singleton, List.take_succ_eq_append_getElem (by simpa using hl), List.getElem_set_self, List.take_set_of_le (Nat.le_refl _), hq.2, List.range_succ]
      simp
    · intro n q hq
      have : ¬ ((List.range a.length).length : Int) < (q.length : Int) := by rw [hq.1]; simp
      have h2 := hq.2
      rw [List.length_range, ← hq.1, List.take_length, hq.1] at h2
      simp only [laws_markStringS_o_l0, this, decide_false, Bool.false_eq_true, if_false]
      simp [h2]
  · unfold laws_heldStringS
    have := loop_list (α := List UInt8) (A := Unit) (L := fun n i _ => laws_heldStringS_l0 k n ((List.range a.length).map T) (m + i) i fun k_3 => some k_3) (I := fun _ _ => True) (G := fun _ _ => some (m + a.length)) ((List.range a.length).map T) ?_ ?_ k (by have := KK_def; simp; omega) () trivial
    · simpa using this
    · intro n pre x post _ hx _ ih hg hlt
      rw [List.length_map, List.length_range] at hlt
      have hw := w_succ (i := pre.length) (by omega)
      have hm : w_i64 (m + (pre.length : Int) + 1) = m + ((pre.length + 1 : Nat) : Int) := by rw [w_id (by omega) (by omega)]; omega
      have hxT : x = T pre.length := by
        rw [List.getElem?_map, List.getElem?_range (by omega)] at hg
        simpa using hg.symm
      have hlt' : (pre.length : Int) < (((List.range a.length).map T).length : Int) := by simp; omega
      simp only [laws_heldStringS_l0, hlt', decide_true, if_true, Int.natCast_nonneg, Int.toNat_natCast, hg, Option.bind_some, hT pre.length (by omega), hxT, Bool.not_true, Bool.false_eq_true, if_false, hm, hw]
      exact ih () trivial
    · intro n _ _
      simp [laws_heldStringS_l0]
/-- A picture. -/
def wid (lines : List (List UInt8)) : Nat := (lines.headD []).length
def okC (c : UInt8) : Bool := decide (32 ≤ c.toNat ∧ c.toNat ≤ 126)
def okLine (w : Nat) (l : List UInt8) : Bool := decide (l.length = w) && (decide (l.length ≤ 80) && l.all okC)
def okPic (lines : List (List UInt8)) : Bool := lines.all (okLine (wid lines)) && decide (lines.length ≤ 60)
theorem wid_get {lines : List (List UInt8)} {i : Nat} {x : List UInt8} (h : lines[i]? = some x) : ∃ y, lines[0]? = some y ∧ y.length = wid lines := by
  cases lines with
  | nil => simp at h
  | cons y l => exact ⟨y, rfl, rfl⟩
theorem l30Ok_ok {k : Nat} (hk : KK ≤ k) {a : List (List UInt8)} (ha : a.length ≤ 1000000000000) (hx : ∀ x ∈ a, x.length ≤ 1000000000000) : spec_l30Ok k a = some (okPic a) := by
  unfold spec_l30Ok
  have hK := KK_def
  have := loop_all (L := fun n i => spec_l30Ok_l0 k n a i fun lines_6 => some (decide ((List.length lines_6 : Int) ≤ 60))) (p := okLine (wid a)) (r := some false) (e := some (decide (a.length ≤ 60))) a ?_ ?_ (n := k) (by omega)
  · refine Eq.trans this ?_
    unfold okPic
    cases a.all (okLine (wid a)) <;> rfl
  · intro n i x hi hlt
    have hxl := hx x (List.mem_of_getElem? hi)
    have hw := w_succ (i := i) (by omega)
    obtain ⟨y, h0, hy⟩ := wid_get hi
    have inner := loop_all (L := fun m j => spec_l30Ok_l1 k m a (i : Int) j fun lines_4 i_5 => spec_l30Ok_l0 k n lines_4 (w_i64 (i_5 + 1)) fun lines_6 => some (decide ((List.length lines_6 : Int) ≤ 60)))
      (p := okC) (r := some false) (e := spec_l30Ok_l0 k n a ((i + 1 : Nat) : Int) fun lines_6 => some (decide ((List.length lines_6 : Int) ≤ 60))) x ?_ ?_ (n := k) (by omega)
    · simp only [spec_l30Ok_l0, hlt, decide_true, if_true, Int.natCast_nonneg, Int.toNat_natCast, hi, h0, Option.bind_some]
      unfold okLine
      by_cases h1 : x.length = wid a
      · have h1' : (x.length : Int) = (y.length : Int) := by omega
        by_cases h2 : x.length ≤ 80
        · have h2' : ¬ (80 < (x.length : Int)) := by omega
          have e1 : (decide (x.length = wid a) && (decide (x.length ≤ 80) && x.all okC)) = x.all okC := by simp [h1, h2]; omega
          rw [decide_eq_true h1', if_neg (by simp), decide_eq_false h2', if_neg (by simp), e1]
          exact inner
        · have h2' : (80 < (x.length : Int)) := by omega
          rw [decide_eq_true h1', if_neg (by simp), decide_eq_true h2', if_pos rfl, decide_eq_false h2, if_neg (by simp)]
      · have h1' : ¬ (x.length : Int) = (y.length : Int) := by omega
        rw [decide_eq_false h1', if_pos (by simp), decide_eq_false h1, if_neg (by simp)]
    · intro m j c hj hjlt
      have hw2 := w_succ (i := j) (by omega)
      simp only [spec_l30Ok_l1, hjlt, decide_true, if_true, Int.natCast_nonneg, Int.toNat_natCast, hi, hj, Option.bind_some, hw2]
      unfold okC z_u8
      by_cases h3 : c.toNat < 32
      · rw [decide_eq_true (by omega), if_pos rfl, if_neg (by simp; omega)]
      · rw [decide_eq_false (by omega), if_neg (by simp)]
        by_cases h4 : 126 < c.toNat
        · rw [decide_eq_true (by omega), if_pos rfl, if_neg (by simp; omega)]
        · rw [decide_eq_false (by omega), if_neg (by simp), if_pos (by simp; omega)]
    · intro m
      simp [spec_l30Ok_l1, hi, hw]
  · intro n
    simp only [spec_l30Ok_l0, Int.lt_irrefl, decide_false, Bool.false_eq_true, if_false]
    exact congrArg some (decide_eq_decide.2 (by omega))
theorem widthOf_ok (a : List (List UInt8)) : impl_widthOf a = some (wid a : Int) := by
  unfold impl_widthOf
  cases a with
  | nil => rfl
  | cons x l =>
    have : ¬ ((x :: l).length : Int) = 0 := by simp only [List.length_cons]; omega
    rw [decide_eq_false this, if_neg (by simp)]
    rfl
theorem badChar_ok {k : Nat} (hk : KK ≤ k) {s : List UInt8} (hs : s.length ≤ 1000000000000) : slices_ContainsFunc_byte__impl_ValidPicture_1 k (of_S s) () = some (!s.all okC) := by
  have hK := KK_def
  have hl : (of_S s).length = s.length := by simp [of_S]
  have key : slices_IndexFunc_byte__impl_ValidPicture_1 k (of_S s) () = some (idxP (fun c : Int => decide (c < 32 ∨ 126 < c)) (of_S s)) := by
    unfold slices_IndexFunc_byte__impl_ValidPicture_1
    refine loop_find (L := fun n i => slices_IndexFunc_byte__impl_ValidPicture_1_l0 k n (of_S s) () ((of_S s).length : Int) i (some (-1))) (of_S s) ?_ ?_ (n := k) (by omega)
    · intro n i x hi hlt
      have hw := w_succ (i := i) (by omega)
      simp only [slices_IndexFunc_byte__impl_ValidPicture_1_l0, impl_ValidPicture_1, hlt, decide_true, if_true, Int.natCast_nonneg, Int.toNat_natCast, hi, Option.bind_some, hw]
      by_cases h1 : x < 32
      · simp [h1]
      · by_cases h2 : 126 < x <;> simp [h1, h2]
    · intro n
      simp [slices_IndexFunc_byte__impl_ValidPicture_1_l0]
  unfold slices_ContainsFunc_byte__impl_ValidPicture_1
  rw [key]
  simp only [Option.bind_some, idxP_any, Option.some.injEq]
  clear key hl hs
  induction s with
  | nil => rfl
  | cons c s ih =>
    have h : of_S (c :: s) = z_u8 c :: of_S s := rfl
    rw [h, List.any_cons, List.all_cons, ih]
    have : (decide (z_u8 c < 32 ∨ 126 < z_u8 c)) = !okC c := by
      unfold z_u8 okC
      rw [← decide_not]
      exact decide_eq_decide.2 (by omega)
    rw [this, Bool.not_and]
theorem implValidPicture_ok {k : Nat} (hk : KK ≤ k) {a : List (List UInt8)} (ha : a.length ≤ 1000000000000) (hx : ∀ x ∈ a, x.length ≤ 1000000000000) : impl_ValidPicture k a = some (okPic a) := by
  have hK := KK_def
  have hL := LIM_def
  unfold impl_ValidPicture
  have := loop_all (L := fun n i => impl_ValidPicture_l0 k n a a (a.length : Int) i fun lines_4 => (if (decide ((List.length lines_4 : Int) ≤ 60)) = true then (impl_widthOf lines_4).bind fun r_5 => some (decide (r_5 ≤ 80)) else some false))
    (p := fun l => decide (l.length = wid a) && l.all okC) (r := some false) (e := some (decide (a.length ≤ 60) && decide (wid a ≤ 80))) a ?_ ?_ (n := k) (by omega)
  · refine Eq.trans this ?_
    have h1 : ∀ w : Nat, (a.all (okLine w)) = ((a.all fun l => decide (l.length = w) && l.all okC) && (a.isEmpty || decide (w ≤ 80))) := by
      intro w
      clear this ha hx
      induction a with
      | nil => rfl
      | cons x l ih =>
        simp only [List.all_cons, ih, List.isEmpty_cons, Bool.false_or, okLine]
        by_cases h1 : x.length = w
        · subst h1
          by_cases h2 : x.length ≤ 80
          · simp [h2]
          · simp [h2]
        · simp [h1]
    unfold okPic
    rw [h1]
    cases a with
    | nil => rfl
    | cons x l =>
      simp only [List.isEmpty_cons, Bool.false_or]
      cases ((x :: l).all fun l_1 => decide (l_1.length = wid (x :: l)) && l_1.all okC)
      · rfl
      · simp only [if_true, Bool.true_and]; rw [Bool.and_comm]
  · intro n i x hi hlt
    have hxl := hx x (List.mem_of_getElem? hi)
    have hw := w_succ (i := i) (by omega)
    have h2 : x.length ≤ LIM := by omega
    simp only [impl_ValidPicture_l0, hlt, decide_true, if_true, Int.natCast_nonneg, Int.toNat_natCast, hi, Option.bind_some, widthOf_ok, h2, badChar_ok hk hxl, hw]
    by_cases h1 : x.length = wid a
    · rw [decide_eq_true (show (x.length : Int) = (wid a : Int) by omega), if_neg (by simp), decide_eq_true h1, Bool.true_and]
      cases x.all okC <;> simp
    · rw [decide_eq_false (show ¬ (x.length : Int) = (wid a : Int) by omega), if_pos (by simp), decide_eq_false h1, if_neg (by simp)]
  · intro n
    simp only [impl_ValidPicture_l0, Int.lt_irrefl, decide_false, Bool.false_eq_true, if_false, widthOf_ok, Option.bind_some]
    have e2 : decide ((wid a : Int) ≤ 80) = decide (wid a ≤ 80) := decide_eq_decide.2 (by omega)
    by_cases h : a.length ≤ 60
    · rw [decide_eq_true (show (a.length : Int) ≤ 60 by omega), if_pos rfl, decide_eq_true h, Bool.true_and, e2]
    · rw [decide_eq_false (show ¬ (a.length : Int) ≤ 60 by omega), if_neg (by simp), decide_eq_false h, Bool.false_and]
theorem repeatL_one' (b : UInt8) : ∀ n, Lib.repeatL [b] n = List.replicate n b
  | 0 => rfl
  | n + 1 => by simp [Lib.repeatL, repeatL_one' b n, List.replicate_succ]
theorem repeat_ok (b : UInt8) {n : Nat} (hn : n ≤ 1000000) : strings_Repeat [b] (n : Int) = some (List.replicate n b) := by
  unfold strings_Repeat
  rw [if_pos ⟨by omega, by omega, by simp; omega⟩, Int.toNat_natCast, repeatL_one']
abbrev Pic := List (List UInt8)
def doneP (q : Pic) : Pic × Int := if okPic q = true then (q, 0) else ([], 5)
theorem l30Times_ok {k : Nat} (hk : KK ≤ k) (b : UInt8) {n : Nat} (hn : n ≤ 1000000) : spec_l30Times k [b] (n : Int) = some (List.replicate n b) := by
  have hK := KK_def
  unfold spec_l30Times
  have := loop_list (L := fun m i q => spec_l30Times_l0 k m [b] (n : Int) q i (fun out_1 => some out_1)) (I := fun pre q => q = pre) (G := fun post q => some (q ++ post)) (List.replicate n b) ?_ ?_ k (by simp; omega) [] rfl
  · simpa using this
  · intro m pre x post q hx hq ih hg hlt
    subst hq
    rw [List.length_replicate] at hlt
    have hw := w_succ (i := q.length) (by omega)
    have hb : x = b := List.eq_of_mem_replicate (List.mem_of_getElem? hg)
    subst hb
    have ih := ih _ rfl
    simp only [spec_l30Times_l0, hlt, decide_true, if_true, hw]
    rw [if_pos (by simp only [List.length_singleton]; omega), ih]
    simp
  · intro m q hq
    simp [spec_l30Times_l0]
theorem l30Done_ok {k : Nat} (hk : KK ≤ k) {q : Pic} (ha : q.length ≤ 1000000000000) (hx : ∀ x ∈ q, x.length ≤ 1000000000000) : (spec_l30Done_g k q).bind (fun y => some (y.2.1.1, y.1.1.2.1)) = some (doneP q) := by
  unfold spec_l30Done_g doneP
  rw [l30Ok_ok hk ha hx]
  cases okPic q <;> simp
theorem okPic_same {q : Pic} {W : Nat} (h : ∀ l ∈ q, l.length = W ∧ l.all okC = true) : okPic q = (decide (q.length ≤ 60) && (q.isEmpty || decide (W ≤ 80))) := by
  unfold okPic
  cases q with
  | nil => simp
  | cons z zs =>
    have hw : wid (z :: zs) = W := (h z (by simp)).1
    rw [hw, List.isEmpty_cons, Bool.false_or, Bool.and_comm]
    congr 1
    by_cases h80 : W ≤ 80
    · rw [decide_eq_true h80, List.all_eq_true]
      intro l hl
      obtain ⟨h1, h2⟩ := h l hl
      unfold okLine
      simp [h1, h2, h80]
    · rw [decide_eq_false h80, List.all_eq_false]
      refine ⟨z, by simp, ?_⟩
      unfold okLine
      simp [(h z (by simp)).1, h80]
theorem pictured_done {k : Nat} (hk : KK ≤ k) {q : Pic} {W : Nat} (hq : q.length ≤ 1000000) (hW : W ≤ 1000000) (h : ∀ l ∈ q, l.length = W ∧ l.all okC = true) : impl_pictured k q = some (doneP q) := by
  have hK := KK_def
  have hL := LIM_def
  unfold impl_pictured
  let W' : Int := if q = [] then 0 else (W : Int)
  have h0 := loop_list (L := fun n i a => impl_pictured_l0 k n q a q (q.length : Int) i (fun lines_2 width_3 => impl_pictured_l1 k k width_3 lines_2 (List.length lines_2 : Int) 0 [] (fun width_7 q_8 => (if (decide (60 < (List.length q_8 : Int))) = true then some ([], 5) else (if (decide (80 < width_7)) = true then some ([], 5) else some (q_8, 0))))))
    (I := fun pre a => a = if pre = [] then 0 else (W : Int)) (G := fun _ _ => impl_pictured_l1 k k W' q (q.length : Int) 0 [] (fun width_7 q_8 => (if (decide (60 < (List.length q_8 : Int))) = true then some ([], 5) else (if (decide (80 < width_7)) = true then some ([], 5) else some (q_8, 0))))) q ?_ ?_ k (by omega) 0 (by simp)
  · refine Eq.trans h0 ?_
    have h1 := loop_list (L := fun n i r => impl_pictured_l1 k n W' q (q.length : Int) i r (fun width_7 q_8 => (if (decide (60 < (List.length q_8 : Int))) = true then some ([], 5) else (if (decide (80 < width_7)) = true then some ([], 5) else some (q_8, (0 : Int))))))
      (I := fun pre r => r = pre) (G := fun _ _ => some (doneP q)) q ?_ ?_ k (by omega) [] rfl
    · exact h1
    · intro n pre x post r hx hr ih hg hlt
      subst hr
      have hw := w_succ (i := r.length) (by omega)
      have hxl := (h x (List.mem_of_getElem? hg)).1
      have hne : q ≠ [] := by intro e; rw [e] at hg; simp at hg
      have hW' : W' = (W : Int) := by show (if q = [] then (0 : Int) else (W : Int)) = _; rw [if_neg hne]
      have hz : w_i64 (W' - (x.length : Int)) = ((0 : Nat) : Int) := by rw [hW', w_id (by omega) (by omega)]; omega
      have ih := ih _ rfl
      simp only [impl_pictured_l1, hlt, decide_true, if_true, Int.natCast_nonneg, Int.toNat_natCast, hg, Option.bind_some, hz, repeat_ok 32 (show 0 ≤ 1000000 by omega), hw, List.replicate_zero, List.append_nil]
      rw [if_pos (by simp only [List.length_nil]; omega), if_pos (by simp only [List.length_singleton]; omega), ih]
    · intro n r hr
      subst hr
      simp only [impl_pictured_l1, Int.lt_irrefl, decide_false, Bool.false_eq_true, if_false]
      unfold doneP
      rw [okPic_same h]
      by_cases h60 : r.length ≤ 60
      · rw [decide_eq_false (show ¬ (60 < (r.length : Int)) by omega), if_neg (by simp), decide_eq_true h60, Bool.true_and]
        cases r with
        | nil => simp [W']
        | cons z zs =>
          have hW' : W' = (W : Int) := rfl
          rw [hW', List.isEmpty_cons, Bool.false_or]
          by_cases h80 : W ≤ 80
          · rw [decide_eq_false (show ¬ (80 < (W : Int)) by omega), decide_eq_true h80]; rfl
          · rw [decide_eq_true (show (80 < (W : Int)) by omega), decide_eq_false h80]; rfl
      · rw [decide_eq_true (show (60 < (r.length : Int)) by omega), if_pos rfl, decide_eq_false h60]; rfl
  · intro n pre x post a hx ha ih hg hlt
    subst ha
    have hw := w_succ (i := pre.length) (by omega)
    have hxl := (h x (List.mem_of_getElem? hg)).1
    simp only [impl_pictured_l0, hlt, decide_true, if_true, Int.natCast_nonneg, Int.toNat_natCast, hg, Option.bind_some, hw]
    refine ih _ ?_
    rw [hxl, if_neg (show pre ++ [x] ≠ [] by simp)]
    by_cases hp : pre = []
    · rw [if_pos hp]; split <;> omega
    · rw [if_neg hp]; split <;> rfl
  · intro n a ha
    subst ha
    simp only [impl_pictured_l0, Int.lt_irrefl, decide_false, Bool.false_eq_true, if_false]
    rfl
theorem okPic_spec {lines : List (List UInt8)} (h : okPic lines = true) : lines.length ≤ 60 ∧ ∀ l ∈ lines, l.length = wid lines ∧ l.length ≤ 80 := by
  unfold okPic okLine at h
  simp only [Bool.and_eq_true, List.all_eq_true, decide_eq_true_eq] at h
  exact ⟨h.2, fun l hl => ⟨(h.1 l hl).1, (h.1 l hl).2.1⟩⟩
theorem within_ok (n a b : Int) : impl_within n a b = some (decide (a ≤ n ∧ n ≤ b)) := by
  unfold impl_within
  by_cases h : a ≤ n <;> simp [h]
theorem l00In_ok (n a b : Int) : spec_l00In n a b = some (decide (a ≤ n ∧ n ≤ b)) := by
  unfold spec_l00In
  by_cases h : a ≤ n <;> simp [h]
def lineP (x : Pic) (i : Nat) : List UInt8 := (x[i]?).getD (List.replicate (wid x) 32)
def besL (a b : Pic) (g i : Nat) : List UInt8 := (lineP a i ++ List.replicate g 32) ++ lineP b i
def besideL (a b : Pic) (g : Nat) : Pic := (List.range (max a.length b.length)).map (besL a b g)
def besideP (a b : Pic) (g : Int) : Pic × Int := if okPic a = true then (if okPic b = true then (if 0 ≤ g ∧ g ≤ 80 then doneP (besideL a b g.toNat) else ([], 2)) else ([], 1)) else ([], 1)
theorem wid_le80 {a : Pic} (h : okPic a = true) : wid a ≤ 80 := by
  obtain ⟨ho1, ho2⟩ := okPic_spec h
  cases a with
  | nil => exact Nat.zero_le _
  | cons z zs => have := ho2 z (by simp); omega
theorem lineP_len {x : Pic} (h : okPic x = true) (i : Nat) : (lineP x i).length = wid x ∧ (lineP x i).all okC = true := by
  unfold okPic okLine at h
  simp only [Bool.and_eq_true, List.all_eq_true, decide_eq_true_eq] at h
  unfold lineP
  cases hg : x[i]? with
  | none => simp [List.all_replicate, okC]
  | some l =>
    obtain ⟨h1, h2, h3⟩ := h.1 l (List.mem_of_getElem? hg)
    exact ⟨h1, List.all_eq_true.2 h3⟩
theorem l30Line_ok {k : Nat} (hk : KK ≤ k) {x : Pic} (h : okPic x = true) (i : Nat) : spec_l30Line k x (i : Int) = some (lineP x i) := by
  have hw := wid_le80 h
  unfold spec_l30Line lineP
  by_cases hi : i < x.length
  · rw [decide_eq_true (show (i : Int) < (x.length : Int) by omega), if_pos rfl, if_pos (by omega), Int.toNat_natCast, List.getElem?_eq_getElem hi]; rfl
  · rw [decide_eq_false (show ¬ (i : Int) < (x.length : Int) by omega), if_neg (by simp), List.getElem?_eq_none (l := x) (i := i) (by omega)]
    cases x with
    | nil => rfl
    | cons z zs =>
      rw [decide_eq_false (show ¬ ((z :: zs).length : Int) = 0 by simp only [List.length_cons]; omega), if_neg (by simp)]
      have := l30Times_ok hk 32 (n := wid (z :: zs)) (by omega)
      show (spec_l30Times k [32] ((wid (z :: zs) : Nat) : Int)).bind _ = _
      rw [this]; rfl
theorem lineOr_ok {x : Pic} (h : okPic x = true) (i : Nat) : impl_lineOr x (i : Int) = some (lineP x i) := by
  have hw := wid_le80 h
  unfold impl_lineOr lineP
  by_cases hi : i < x.length
  · rw [decide_eq_true (show (i : Int) < (x.length : Int) by omega), if_pos rfl, if_pos (by omega), Int.toNat_natCast, List.getElem?_eq_getElem hi]; rfl
  · rw [decide_eq_false (show ¬ (i : Int) < (x.length : Int) by omega), if_neg (by simp), List.getElem?_eq_none (l := x) (i := i) (by omega), widthOf_ok]
    simp only [Option.bind_some, repeat_ok 32 (show wid x ≤ 1000000 by omega)]; rfl
theorem besL_len {a b : Pic} (ha : okPic a = true) (hb : okPic b = true) (g i : Nat) : (besL a b g i).length = wid a + g + wid b ∧ (besL a b g i).all okC = true := by
  obtain ⟨h1, h2⟩ := lineP_len ha i
  obtain ⟨h3, h4⟩ := lineP_len hb i
  unfold besL
  refine ⟨by simp [h1, h3]; omega, ?_⟩
  rw [List.all_append, List.all_append, h2, h4]
  simp [List.all_replicate, okC]
theorem specBeside_loop {k : Nat} (hk : KK ≤ k) {a b : Pic} (ha : okPic a = true) (hb : okPic b = true) {g : Nat} (hg : g ≤ 80) {e : Pic → Option (Pic × Int)} : spec_BesidePictures_l0 k k a b (g : Int) 0 [] e = e (besideL a b g) := by
  have hK := KK_def
  have hL := LIM_def
  obtain ⟨ha1, _⟩ := okPic_spec ha
  obtain ⟨hb1, _⟩ := okPic_spec hb
  have hwa := wid_le80 ha
  have hwb := wid_le80 hb
  have := loop_list (L := fun n i q => spec_BesidePictures_l0 k n a b (g : Int) i q e) (I := fun pre q => q = pre.map (besL a b g)) (G := fun post q => e (q ++ post.map (besL a b g))) (List.range (max a.length b.length)) ?_ ?_ k (by simp; omega) [] rfl
  · simpa [besideL] using this
  · intro n pre x post q hx hq ih hget hlt
    rw [List.length_range] at hlt
    have hxi : x = pre.length := by
      rw [List.getElem?_range (by omega)] at hget
      simpa using hget.symm
    subst hxi
    have hw := w_succ (i := pre.length) (by omega)
    have ih := ih (q ++ [besL a b g pre.length]) (by rw [hq]; simp)
    obtain ⟨q1, _⟩ := lineP_len ha pre.length
    obtain ⟨q2, _⟩ := lineP_len hb pre.length
    have c1 : (lineP a pre.length).length + (List.replicate g (32 : UInt8)).length ≤ 9223372036854775807 := by rw [List.length_replicate]; omega
    have c2 : (lineP a pre.length ++ List.replicate g (32 : UInt8)).length + (lineP b pre.length).length ≤ 9223372036854775807 := by rw [List.length_append, List.length_replicate]; omega
    have c3 : (q.length + [((lineP a pre.length ++ List.replicate g (32 : UInt8)) ++ lineP b pre.length)].length) * 16 ≤ LIM := by rw [hq]; simp only [List.length_map, List.length_singleton]; omega
    have ih' : spec_BesidePictures_l0 k n a b (g : Int) ((pre.length + 1 : Nat) : Int) (q ++ [((lineP a pre.length ++ List.replicate g (32 : UInt8)) ++ lineP b pre.length)]) e = e (q ++ [besL a b g pre.length] ++ post.map (besL a b g)) := ih
    simp only [spec_BesidePictures_l0, l30Line_ok hk ha, l30Line_ok hk hb, l30Times_ok hk 32 (show g ≤ 1000000 by omega), Option.bind_some, c1, c2, c3, if_true, hw, ih']
    rw [List.map_cons, List.append_assoc, List.singleton_append]
    by_cases h1 : pre.length < a.length
    · rw [decide_eq_true (show (pre.length : Int) < (a.length : Int) by omega), if_pos rfl]
    · rw [decide_eq_false (show ¬ (pre.length : Int) < (a.length : Int) by omega), if_neg (by simp), decide_eq_true (show (pre.length : Int) < (b.length : Int) by omega), if_pos rfl]
  · intro n q hq
    rw [List.length_range]
    simp only [spec_BesidePictures_l0]
    rw [decide_eq_false (show ¬ ((max a.length b.length : Nat) : Int) < (a.length : Int) by omega), if_neg (by simp), decide_eq_false (show ¬ ((max a.length b.length : Nat) : Int) < (b.length : Int) by omega), if_neg (by simp), List.map_nil, List.append_nil]
theorem implBeside_loop {k : Nat} (hk : KK ≤ k) {a b : Pic} (ha : okPic a = true) (hb : okPic b = true) {g : Nat} (hg : g ≤ 80) {e : Pic → Option (Pic × Int)} : impl_BesidePictures_l0 k k a b (g : Int) ((max a.length b.length : Nat) : Int) 0 [] e = e (besideL a b g) := by
  have hK := KK_def
  have hL := LIM_def
  obtain ⟨ha1, _⟩ := okPic_spec ha
  obtain ⟨hb1, _⟩ := okPic_spec hb
  have hwa := wid_le80 ha
  have hwb := wid_le80 hb
  have := loop_list (L := fun n i q => impl_BesidePictures_l0 k n a b (g : Int) ((max a.length b.length : Nat) : Int) i q e) (I := fun pre q => q = pre.map (besL a b g)) (G := fun post q => e (q ++ post.map (besL a b g))) (List.range (max a.length b.length)) ?_ ?_ k (by simp; omega) [] rfl
  · simpa [besideL] using this
  · intro n pre x post q hx hq ih hget hlt
    rw [List.length_range] at hlt
    have hxi : x = pre.length := by
      rw [List.getElem?_range (by omega)] at hget
      simpa using hget.symm
    subst hxi
    have hw := w_succ (i := pre.length) (by omega)
    have ih := ih (q ++ [besL a b g pre.length]) (by rw [hq]; simp)
    obtain ⟨q1, _⟩ := lineP_len ha pre.length
    obtain ⟨q2, _⟩ := lineP_len hb pre.length
    have c1 : (lineP a pre.length).length + (List.replicate g (32 : UInt8)).length ≤ 9223372036854775807 := by rw [List.length_replicate]; omega
    have c2 : (lineP a pre.length ++ List.replicate g (32 : UInt8)).length + (lineP b pre.length).length ≤ 9223372036854775807 := by rw [List.length_append, List.length_replicate]; omega
    have c3 : (q.length + [((lineP a pre.length ++ List.replicate g (32 : UInt8)) ++ lineP b pre.length)].length) * 16 ≤ LIM := by rw [hq]; simp only [List.length_map, List.length_singleton]; omega
    have ih' : impl_BesidePictures_l0 k n a b (g : Int) ((max a.length b.length : Nat) : Int) ((pre.length + 1 : Nat) : Int) (q ++ [((lineP a pre.length ++ List.replicate g (32 : UInt8)) ++ lineP b pre.length)]) e = e (q ++ [besL a b g pre.length] ++ post.map (besL a b g)) := ih
    simp only [impl_BesidePictures_l0, hlt, decide_true, lineOr_ok ha, lineOr_ok hb, repeat_ok 32 (show g ≤ 1000000 by omega), Option.bind_some, c1, c2, c3, if_true, hw, ih']
    rw [List.map_cons, List.append_assoc, List.singleton_append]
  · intro n q hq
    rw [List.length_range]
    simp only [impl_BesidePictures_l0, Int.lt_irrefl, decide_false, Bool.false_eq_true, if_false, List.map_nil, List.append_nil]
theorem besideL_spec {a b : Pic} (ha : okPic a = true) (hb : okPic b = true) {g : Nat} : (besideL a b g).length = max a.length b.length ∧ ∀ l ∈ besideL a b g, l.length = wid a + g + wid b ∧ l.all okC = true := by
  refine ⟨by simp [besideL], fun l hl => ?_⟩
  unfold besideL at hl
  obtain ⟨i, _, rfl⟩ := List.mem_map.1 hl
  exact besL_len ha hb g i
theorem specBeside_ok {k : Nat} (hk : KK ≤ k) {a b : Pic} (ha : a.length ≤ 1000000000000) (hx : ∀ x ∈ a, x.length ≤ 1000000000000) (hb : b.length ≤ 1000000000000) (hy : ∀ x ∈ b, x.length ≤ 1000000000000) (g : Int) : spec_BesidePictures k a b g = some (besideP a b g) := by
  unfold spec_BesidePictures besideP
  rw [l30Ok_ok hk ha hx, l30Ok_ok hk hb hy, l00In_ok]
  cases hoa : okPic a
  · simp
  · cases hob : okPic b
    · simp
    · by_cases hg : 0 ≤ g ∧ g ≤ 80
      · obtain ⟨n, rfl⟩ := Int.eq_ofNat_of_zero_le hg.1
        obtain ⟨s1, s2⟩ := besideL_spec hoa hob (g := n)
        obtain ⟨ha1, _⟩ := okPic_spec hoa
        obtain ⟨hb1, _⟩ := okPic_spec hob
        have hwa := wid_le80 hoa
        have hwb := wid_le80 hob
        rw [if_pos hg, decide_eq_true hg]
        simp only [Option.bind_some, Bool.not_true, Bool.false_eq_true, if_false, if_true, Int.toNat_natCast]
        rw [specBeside_loop hk hoa hob (by omega)]
        exact l30Done_ok hk (q := besideL a b n) (by omega) (fun x hx => by have := (s2 x hx).1; omega)
      · rw [if_neg hg, decide_eq_false hg]; simp
theorem implBeside_ok {k : Nat} (hk : KK ≤ k) {a b : Pic} (ha : a.length ≤ 1000000000000) (hx : ∀ x ∈ a, x.length ≤ 1000000000000) (hb : b.length ≤ 1000000000000) (hy : ∀ x ∈ b, x.length ≤ 1000000000000) (g : Int) : impl_BesidePictures k a b g = some (besideP a b g) := by
  unfold impl_BesidePictures besideP
  rw [implValidPicture_ok hk ha hx, implValidPicture_ok hk hb hy, within_ok]
  cases hoa : okPic a
  · simp
  · cases hob : okPic b
    · simp
    · by_cases hg : 0 ≤ g ∧ g ≤ 80
      · obtain ⟨n, rfl⟩ := Int.eq_ofNat_of_zero_le hg.1
        obtain ⟨s1, s2⟩ := besideL_spec hoa hob (g := n)
        obtain ⟨ha1, _⟩ := okPic_spec hoa
        obtain ⟨hb1, _⟩ := okPic_spec hob
        have hwa := wid_le80 hoa
        have hwb := wid_le80 hob
        have hm : (if (a.length : Int) < (b.length : Int) then (b.length : Int) else (a.length : Int)) = ((max a.length b.length : Nat) : Int) := by split <;> omega
        rw [if_pos hg, decide_eq_true hg, hm]
        simp only [Option.bind_some, Bool.not_true, Bool.false_eq_true, if_false, if_true, Int.toNat_natCast]
        rw [implBeside_loop hk hoa hob (by omega), pictured_done hk (q := besideL a b n) (W := wid a + n + wid b) (by omega) (by omega) s2]
        rfl
      · rw [if_neg hg, decide_eq_false hg]; simp
theorem besideP_len (a b : Pic) (g : Int) : (besideP a b g).1.length ≤ a.length + b.length := by
  unfold besideP doneP
  have : (besideL a b g.toNat).length = max a.length b.length := by simp [besideL]
  split
  · split
    · split
      · split
        · show (besideL a b g.toNat).length ≤ _; omega
        · simp
      · simp
    · simp
  · simp
theorem pure_FnExactBesidePictures {e e' : TypeId} (a0 a1 : List (List UInt8)) (a2 : Int) (f0 : InR (.sl e .str) a0) (f1 : InR (.sl e' .str) a1) (f2 : InR (.int .i64) a2) : ∃ k : Nat, laws_FnExactBesidePictures k a0 a1 a2 = some true := by
  have hk := Nat.le_refl KK
  refine ⟨KK, ?_⟩
  obtain ⟨r, hr, h⟩ := szStringS_ok hk (a := a0) (left := 1048576) (by omega) (by omega) f0
  unfold laws_FnExactBesidePictures
  rw [hr]; simp only [Option.bind_some]
  rcases h with h | ⟨h1, h2, h3, h4⟩
  · rw [decide_eq_true h, if_pos rfl]
  · rw [decide_eq_false (by omega), if_neg (by simp)]
    obtain ⟨r', hr', h'⟩ := szStringS_ok hk (a := a1) (left := r) (by omega) (by omega) f1
    rw [hr']; simp only [Option.bind_some]
    rcases h' with h' | ⟨g1, g2, g3, g4⟩
    · rw [decide_eq_true h', if_pos rfl]
    · rw [decide_eq_false (by omega), if_neg (by simp)]
      have hx : ∀ x ∈ a0, x.length ≤ 1000000000000 := fun x hx => Nat.le_trans (h4 x hx) (by omega)
      have hy : ∀ x ∈ a1, x.length ≤ 1000000000000 := fun x hx => Nat.le_trans (g4 x hx) (by omega)
      have hl := besideP_len a0 a1 a2
      obtain ⟨q, q1, q2⟩ := markStringS_ok hk (a := a0) (m := 1) (by omega) (by omega) (by omega)
      obtain ⟨p, p1, p2⟩ := markStringS_ok hk (a := a1) (m := 1 + (a0.length : Int)) (by omega) (by omega) (by omega)
      obtain ⟨q', q1', q2'⟩ := markStringS_ok hk (a := (besideP a0 a1 a2).1) (m := 1) (by omega) (by omega) (by omega)
      have hn : ¬ (1 + (a0.length : Int) + (a1.length : Int) < 0) := by omega
      have hn' : ¬ (1 + ((besideP a0 a1 a2).1.length : Int) < 0) := by omega
      simp only [toStringS_ok hk h3, toStringS_ok hk g3, Option.bind_some, specBeside_ok hk (show a0.length ≤ 1000000000000 by omega) hx (show a1.length ≤ 1000000000000 by omega) hy, implBeside_ok hk (show a0.length ≤ 1000000000000 by omega) hx (show a1.length ≤ 1000000000000 by omega) hy, eqStringS_ok hk (show (besideP a0 a1 a2).1.length < 4611686018427387904 by omega), eqStringS_ok hk (show a0.length < 4611686018427387904 by omega), eqStringS_ok hk (show a1.length < 4611686018427387904 by omega), decide_true, Bool.not_true, Bool.false_eq_true, if_false, q1, q2, p1, p2, q1', q2', hn, hn', decide_false]
end Go.Proofs.Ytkopnopjbaejjaa.Ev
