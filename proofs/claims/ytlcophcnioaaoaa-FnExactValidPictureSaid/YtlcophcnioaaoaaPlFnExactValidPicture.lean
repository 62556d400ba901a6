/- Plain laws of the printed functions. No conditions but those in each statement. -/
import Derived.Test.YtlcophcnioaaoaaEv4
import Derived.Test.YtlcophcnioaaoaaG3
set_option linter.unusedVariables false
set_option linter.unusedSimpArgs false
namespace Go.Proofs.Ytlcophcnioaaoaa.Ev
open Go.RowKit
theorem eqStringS_ok {k : Nat} (hk : KK ≤ k) {a b : List (List UInt8)} (ha : a.length < 4611686018427387904) : laws_eqStringS k a b = some (decide (a = b)) := by
  unfold laws_eqStringS
  by_cases hl : a.length = b.length
  · rw [if_neg (by simp [hl])]
    refine loop_eq (L := fun n i => laws_eqStringS_l0 k n a b i (some true)) a b hl ?_ ?_ (n := k) (by have := KK_def; omega)
    · intro n i x y hx hy hlt
      have hw := w_succ (i := i) (by omega)
      by_cases e : x = y <;> simp [laws_eqStringS_l0, hlt, hx, hy, hw, e]
    · intro n
      simp [laws_eqStringS_l0]
  · have h2 : a ≠ b := fun e => hl (by rw [e])
    have h3 : ¬ (a.length : Int) = b.length := by omega
    simp [h3, h2]
theorem toStringS_ok {k : Nat} (hk : KK ≤ k) {a : List (List UInt8)} (ha : a.length ≤ 1048576) : laws_toStringS k a = some a := by
  unfold laws_toStringS
  have hL := LIM_def
  rw [if_pos ⟨by omega, Int.le_refl _, by omega⟩]
  refine loop_copy (L := fun n i q => laws_toStringS_l0 k n a i q fun q_5 => some q_5) (e := fun q => some q) a _ (by simp) ?_ ?_ (n := k) (by have := KK_def; omega)
  · intro n i x q hx hlt hq
    have hw := w_succ (i := i) (by omega)
    have hi : i < q.length := by omega
    simp [laws_toStringS_l0, hlt, hx, hw, hi]
  · intro n q
    simp [laws_toStringS_l0]
/-- The size asked for: it fits and leaves something, or it does not. -/
theorem szStringS_ok {k : Nat} (hk : KK ≤ k) {a : List (List UInt8)} {e : TypeId} {left : Int} (h0 : 0 ≤ left) (h1 : left ≤ 1048576) (ha : InR (.sl e .str) a) : ∃ r, laws_szStringS k a left = some r ∧ (r < 0 ∨ (0 ≤ r ∧ r ≤ left ∧ a.length ≤ 1048576 ∧ ∀ x ∈ a, x.length ≤ 1048576)) := by
  obtain ⟨hl, hx⟩ := ha
  unfold laws_szStringS
  rw [w_id (by omega) (by omega)]
  by_cases h : left - (a.length : Int) < 0
  · exact ⟨-1, by simp [h], .inl (by omega)⟩
  · simp only [decide_eq_true_eq, h, if_false]
    let G : List (List UInt8) → Int → Option Int := fun l r => l.foldr (fun x k r => if r - (x.length : Int) < 0 then some (-1) else k (r - x.length)) (fun r => some r) r
    have := loop_list (L := fun n i r => laws_szStringS_l0 k n a r i fun left => some left) (I := fun pre r => r ≤ left ∧ 0 ≤ r) (G := G) a ?_ ?_ k (by have := KK_def; omega) (left - a.length) ⟨by omega, by omega⟩
    · rw [this]
      have key : ∀ (l : List (List UInt8)) (r : Int), 0 ≤ r → r ≤ left → ∃ q, G l r = some q ∧ (q < 0 ∨ (0 ≤ q ∧ q ≤ left ∧ ∀ x ∈ l, x.length ≤ 1048576)) := by
        intro l
        induction l with
        | nil => exact fun r h2 h3 => ⟨r, rfl, .inr ⟨h2, h3, by simp⟩⟩
        | cons x l ih =>
          intro r h2 h3
          show ∃ q, (if r - (x.length : Int) < 0 then some (-1) else G l (r - x.length)) = some q ∧ _
          by_cases hr : r - (x.length : Int) < 0
          · exact ⟨-1, by rw [if_pos hr], .inl (by omega)⟩
          · obtain ⟨q, q1, q2⟩ := ih (r - x.length) (by omega) (by omega)
            refine ⟨q, by rw [if_neg hr]; exact q1, q2.imp id fun q3 => ⟨q3.1, q3.2.1, fun y hy => ?_⟩⟩
            rcases List.mem_cons.1 hy with rfl | hy
            · omega
            · exact q3.2.2 y hy
      obtain ⟨q, q1, q2⟩ := key a (left - a.length) (by omega) (by omega)
      exact ⟨q, q1, q2.imp id fun q3 => ⟨q3.1, q3.2.1, by omega, q3.2.2⟩⟩
    · intro n pre x post r hax hr ih hg hlt
      have hw := w_succ (i := pre.length) (by omega)
      have hxl : x.length ≤ 140737488355328 := by have : List.length x ≤ 140737488351232 := hx x (by rw [hax]; simp); omega
      have hs : w_i64 (r - (x.length : Int)) = r - x.length := w_id (by omega) (by omega)
      show _ = (if r - (x.length : Int) < 0 then some (-1) else G post (r - x.length))
      by_cases hq : r - (x.length : Int) < 0
      · simp [laws_szStringS_l0, hlt, hg, hs, hq]
      · simp only [laws_szStringS_l0, hlt, hg, hs, hq, decide_true, if_true, Int.natCast_nonneg, Int.toNat_natCast, Option.bind_some, decide_false, Bool.false_eq_true, if_false, hw]
        exact ih _ ⟨by omega, by omega⟩
    · intro n r hr
      simp [laws_szStringS_l0, G]
/-- A picture. -/
def wid (lines : List (List UInt8)) : Nat := (lines.headD []).length
def okC (c : UInt8) : Bool := decide (32 ≤ c.toNat ∧ c.toNat ≤ 126)
def okLine (w : Nat) (l : List UInt8) : Bool := decide (l.length = w) && (decide (l.length ≤ 80) && l.all okC)
def okPic (lines : List (List UInt8)) : Bool := lines.all (okLine (wid lines)) && decide (lines.length ≤ 60)
theorem wid_get {lines : List (List UInt8)} {i : Nat} {x : List UInt8} (h : lines[i]? = some x) : ∃ y, lines[0]? = some y ∧ y.length = wid lines := by
  cases lines with
  | nil => simp at h
  | cons y l => exact ⟨y, rfl, rfl⟩
theorem l30Ok_ok {k : Nat} (hk : KK ≤ k) {a : List (List UInt8)} (ha : a.length ≤ 1000000000000) (hx : ∀ x ∈ a, x.length ≤ 1000000000000) : spec_l30Ok k a = some (okPic a) := by
  unfold spec_l30Ok
  have hK := KK_def
  have := loop_all (L := fun n i => spec_l30Ok_l0 k n a i fun lines_6 => some (decide ((List.length lines_6 : Int) ≤ 60))) (p := okLine (wid a)) (r := some false) (e := some (decide (a.length ≤ 60))) a ?_ ?_ (n := k) (by omega)
  · refine Eq.trans this ?_
    unfold okPic
    cases a.all (okLine (wid a)) <;> rfl
  · intro n i x hi hlt
    have hxl := hx x (List.mem_of_getElem? hi)
    have hw := w_succ (i := i) (by omega)
    obtain ⟨y, h0, hy⟩ := wid_get hi
    have inner := loop_all (L := fun m j => spec_l30Ok_l1 k m a (i : Int) j fun lines_4 i_5 => spec_l30Ok_l0 k n lines_4 (w_i64 (i_5 + 1)) fun lines_6 => some (decide ((List.length lines_6 : Int) ≤ 60)))
      (p := okC) (r := some false) (e := spec_l30Ok_l0 k n a ((i + 1 : Nat) : Int) fun lines_6 => some (decide ((List.length lines_6 : Int) ≤ 60))) x ?_ ?_ (n := k) (by omega)
    · simp only [spec_l30Ok_l0, hlt, decide_true, if_true, Int.natCast_nonneg, Int.toNat_natCast, hi, h0, Option.bind_some]
      unfold okLine
      by_cases h1 : x.length = wid a
      · have h1' : (x.length : Int) = (y.length : Int) := by omega
        by_cases h2 : x.length ≤ 80
        · have h2' : ¬ (80 < (x.length : Int)) := by omega
          have e1 : (decide (x.length = wid a) && (decide (x.length ≤ 80) && x.all okC)) = x.all okC := by simp [h1, h2]; omega
          rw [decide_eq_true h1', if_neg (by simp), decide_eq_false h2', if_neg (by simp), e1]
          exact inner
        · have h2' : (80 < (x.length : Int)) := by omega
          rw [decide_eq_true h1', if_neg (by simp), decide_eq_true h2', if_pos rfl, decide_eq_false h2, if_neg (by simp)]
      · have h1' : ¬ (x.length : Int) = (y.length : Int) := by omega
        rw [decide_eq_false h1', if_pos (by simp), decide_eq_false h1, if_neg (by simp)]
    · intro m j c hj hjlt
      have hw2 := w_succ (i := j) (by omega)
      simp only [spec_l30Ok_l1, hjlt, decide_true, if_true, Int.natCast_nonneg, Int.toNat_natCast, hi, hj, Option.bind_some, hw2]
      unfold okC z_u8
      by_cases h3 : c.toNat < 32
      · rw [decide_eq_true (by omega), if_pos rfl, if_neg (by simp; omega)]
      · rw [decide_eq_false (by omega), if_neg (by simp)]
        by_cases h4 : 126 < c.toNat
        · rw [decide_eq_true (by omega), if_pos rfl, if_neg (by simp; omega)]
        · rw [decide_eq_false (by omega), if_neg (by simp), if_pos (by simp; omega)]
    · intro m
      simp [spec_l30Ok_l1, hi, hw]
  · intro n
    simp only [spec_l30Ok_l0, Int.lt_irrefl, decide_false, Bool.false_eq_true, if_false]
    exact congrArg some (decide_eq_decide.2 (by omega))
theorem widthOf_ok (a : List (List UInt8)) : impl_widthOf a = some (wid a : Int) := by
  unfold impl_widthOf
  cases a with
  | nil => rfl
  | cons x l =>
    have : ¬ ((x :: l).length : Int) = 0 := by simp only [List.length_cons]; omega
    rw [decide_eq_false this, if_neg (by simp)]
    rfl
theorem badChar_ok {k : Nat} (hk : KK ≤ k) {s : List UInt8} (hs : s.length ≤ 1000000000000) : slices_ContainsFunc_byte__impl_ValidPicture_1 k (of_S s) () = some (!s.all okC) := by
  have hK := KK_def
  have hl : (of_S s).length = s.length := by simp [of_S]
  have key : slices_IndexFunc_byte__impl_ValidPicture_1 k (of_S s) () = some (idxP (fun c : Int => decide (c < 32 ∨ 126 < c)) (of_S s)) := by
    unfold slices_IndexFunc_byte__impl_ValidPicture_1
    refine loop_find (L := fun n i => slices_IndexFunc_byte__impl_ValidPicture_1_l0 k n (of_S s) () ((of_S s).length : Int) i (some (-1))) (of_S s) ?_ ?_ (n := k) (by omega)
    · intro n i x hi hlt
      have hw := w_succ (i := i) (by omega)
      simp only [slices_IndexFunc_byte__impl_ValidPicture_1_l0, impl_ValidPicture_1, hlt, decide_true, if_true, Int.natCast_nonneg, Int.toNat_natCast, hi, Option.bind_some, hw]
      by_cases h1 : x < 32
      · simp [h1]
      · by_cases h2 : 126 < x <;> simp [h1, h2]
    · intro n
      simp [slices_IndexFunc_byte__impl_ValidPicture_1_l0]
  unfold slices_ContainsFunc_byte__impl_ValidPicture_1
  rw [key]
  simp only [Option.bind_some, idxP_any, Option.some.injEq]
  clear key hl hs
  induction s with
  | nil => rfl
  | cons c s ih =>
    have h : of_S (c :: s) = z_u8 c :: of_S s := rfl
    rw [h, List.any_cons, List.all_cons, ih]
    have : (decide (z_u8 c < 32 ∨ 126 < z_u8 c)) = !okC c := by
      unfold z_u8 okC
      rw [← decide_not]
      exact decide_eq_decide.2 (by omega)
    rw [this, Bool.not_and]
theorem implValidPicture_ok {k : Nat} (hk : KK ≤ k) {a : List (List UInt8)} (ha : a.length ≤ 1000000000000) (hx : ∀ x ∈ a, x.length ≤ 1000000000000) : impl_ValidPicture k a = some (okPic a) := by
  have hK := KK_def
  have hL := LIM_def
  unfold impl_ValidPicture
  have := loop_all (L := fun n i => impl_ValidPicture_l0 k n a a (a.length : Int) i fun lines_4 => (if (decide ((List.length lines_4 : Int) ≤ 60)) = true then (impl_widthOf lines_4).bind fun r_5 => some (decide (r_5 ≤ 80)) else some false))
    (p := fun l => decide (l.length = wid a) && l.all okC) (r := some false) (e := some (decide (a.length ≤ 60) && decide (wid a ≤ 80))) a ?_ ?_ (n := k) (by omega)
  · refine Eq.trans this ?_
    have h1 : ∀ w : Nat, (a.all (okLine w)) = ((a.all fun l => decide (l.length = w) && l.all okC) && (a.isEmpty || decide (w ≤ 80))) := by
      intro w
      clear this ha hx
      induction a with
      | nil => rfl
      | cons x l ih =>
        simp only [List.all_cons, ih, List.isEmpty_cons, Bool.false_or, okLine]
        by_cases h1 : x.length = w
        · subst h1
          by_cases h2 : x.length ≤ 80
          · simp [h2]
          · simp [h2]
        · simp [h1]
    unfold okPic
    rw [h1]
    cases a with
    | nil => rfl
    | cons x l =>
      simp only [List.isEmpty_cons, Bool.false_or]
      cases ((x :: l).all fun l_1 => decide (l_1.length = wid (x :: l)) && l_1.all okC)
      · rfl
      · simp only [if_true, Bool.true_and]; rw [Bool.and_comm]
  · intro n i x hi hlt
    have hxl := hx x (List.mem_of_getElem? hi)
    have hw := w_succ (i := i) (by omega)
    have h2 : x.length ≤ LIM := by omega
    simp only [impl_ValidPicture_l0, hlt, decide_true, if_true, Int.natCast_nonneg, Int.toNat_natCast, hi, Option.bind_some, widthOf_ok, h2, badChar_ok hk hxl, hw]
    by_cases h1 : x.length = wid a
    · rw [decide_eq_true (show (x.length : Int) = (wid a : Int) by omega), if_neg (by simp), decide_eq_true h1, Bool.true_and]
      cases x.all okC <;> simp
    · rw [decide_eq_false (show ¬ (x.length : Int) = (wid a : Int) by omega), if_pos (by simp), decide_eq_false h1, if_neg (by simp)]
  · intro n
    simp only [impl_ValidPicture_l0, Int.lt_irrefl, decide_false, Bool.false_eq_true, if_false, widthOf_ok, Option.bind_some]
    have e2 : decide ((wid a : Int) ≤ 80) = decide (wid a ≤ 80) := decide_eq_decide.2 (by omega)
    by_cases h : a.length ≤ 60
    · rw [decide_eq_true (show (a.length : Int) ≤ 60 by omega), if_pos rfl, decide_eq_true h, Bool.true_and, e2]
    · rw [decide_eq_false (show ¬ (a.length : Int) ≤ 60 by omega), if_neg (by simp), decide_eq_false h, Bool.false_and]
theorem pure_FnExactValidPicture {e : TypeId} (a0 : List (List UInt8)) (f0 : InR (.sl e .str) a0) : ∃ k : Nat, laws_FnExactValidPicture k a0 = some true := by
  have hk := Nat.le_refl KK
  refine ⟨KK, ?_⟩
  obtain ⟨r, hr, h⟩ := szStringS_ok hk (a := a0) (left := 1048576) (by omega) (by omega) f0
  unfold laws_FnExactValidPicture spec_ValidPicture
  rw [hr]; simp only [Option.bind_some]
  rcases h with h | ⟨h1, h2, h3, h4⟩
  · rw [decide_eq_true h, if_pos rfl]
  · rw [decide_eq_false (by omega), if_neg (by simp)]
    have hx : ∀ x ∈ a0, x.length ≤ 1000000000000 := fun x hx => Nat.le_trans (h4 x hx) (by omega)
    simp [toStringS_ok hk h3, l30Ok_ok hk (show a0.length ≤ 1000000000000 by omega) hx, implValidPicture_ok hk (show a0.length ≤ 1000000000000 by omega) hx, eqStringS_ok hk (show a0.length < 4611686018427387904 by omega)]
end Go.Proofs.Ytlcophcnioaaoaa.Ev
