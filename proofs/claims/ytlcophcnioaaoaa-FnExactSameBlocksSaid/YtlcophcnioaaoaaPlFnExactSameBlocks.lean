/- Plain laws of the printed functions. No conditions but those in each statement. -/
import Derived.Test.YtlcophcnioaaoaaEv4
import Derived.Test.YtlcophcnioaaoaaG3
set_option linter.unusedVariables false
set_option linter.unusedSimpArgs false
namespace Go.Proofs.Ytlcophcnioaaoaa.Ev
open Go.RowKit
abbrev Blk := List UInt8 × List UInt8 × List UInt8
theorem eqBlockS_ok {k : Nat} (hk : KK ≤ k) {a b : List Blk} (ha : a.length < 4611686018427387904) : laws_eqBlockS k a b = some (decide (a = b)) := by
  unfold laws_eqBlockS
  by_cases hl : a.length = b.length
  · rw [if_neg (by simp [hl])]
    refine loop_eq (L := fun n i => laws_eqBlockS_l0 k n a b i (some true)) a b hl ?_ ?_ (n := k) (by have := KK_def; omega)
    · intro n i x y hx hy hlt
      have hw := w_succ (i := i) (by omega)
      obtain ⟨x1, x2, x3⟩ := x
      obtain ⟨y1, y2, y3⟩ := y
      simp only [laws_eqBlockS_l0, laws_eqBlock, hlt, decide_true, if_true, Int.natCast_nonneg, Int.toNat_natCast, hx, hy, Option.bind_some, hw, Prod.mk.injEq]
      by_cases e1 : x1 = y1 <;> by_cases e2 : x2 = y2 <;> by_cases e3 : x3 = y3 <;> simp [e1, e2, e3]
    · intro n
      simp [laws_eqBlockS_l0]
  · have h2 : a ≠ b := fun e => hl (by rw [e])
    have h3 : ¬ (a.length : Int) = b.length := by omega
    simp [h3, h2]
theorem toBlockS_ok {k : Nat} (hk : KK ≤ k) {a : List Blk} (ha : a.length ≤ 1048576) : laws_toBlockS k a = some a := by
  unfold laws_toBlockS
  have hL := LIM_def
  rw [if_pos ⟨by omega, Int.le_refl _, by omega⟩]
  refine loop_copy (L := fun n i q => laws_toBlockS_l0 k n a i q fun q_5 => some q_5) (e := fun q => some q) a _ (by simp) ?_ ?_ (n := k) (by have := KK_def; omega)
  · intro n i x q hx hlt hq
    have hw := w_succ (i := i) (by omega)
    have hi : i < q.length := by omega
    simp [laws_toBlockS_l0, laws_toBlock, hlt, hx, hw, hi]
  · intro n q
    simp [laws_toBlockS_l0]
theorem szBlock_ok {x : Blk} {left : Int} (h0 : 0 ≤ left) (h1 : left ≤ 1048576) (h2 : x.1.length ≤ 140737488355328) (h3 : x.2.1.length ≤ 140737488355328) (h4 : x.2.2.length ≤ 140737488355328) :
    ∃ r, laws_szBlock x left = some r ∧ (r < 0 ∨ (0 ≤ r ∧ r ≤ left ∧ x.1.length ≤ 1048576 ∧ x.2.1.length ≤ 1048576 ∧ x.2.2.length ≤ 1048576)) := by
  unfold laws_szBlock
  rw [w_id (x := left - (x.1.length : Int)) (by omega) (by omega)]
  by_cases q1 : left - (x.1.length : Int) < 0
  · exact ⟨-1, by simp [q1], .inl (by omega)⟩
  · rw [decide_eq_false q1, if_neg (by simp), w_id (x := left - (x.1.length : Int) - (x.2.1.length : Int)) (by omega) (by omega)]
    by_cases q2 : left - (x.1.length : Int) - (x.2.1.length : Int) < 0
    · exact ⟨-1, by simp [q2], .inl (by omega)⟩
    · rw [decide_eq_false q2, if_neg (by simp), w_id (x := left - (x.1.length : Int) - (x.2.1.length : Int) - (x.2.2.length : Int)) (by omega) (by omega)]
      by_cases q3 : left - (x.1.length : Int) - (x.2.1.length : Int) - (x.2.2.length : Int) < 0
      · exact ⟨-1, by simp [q3], .inl (by omega)⟩
      · exact ⟨_, by rw [decide_eq_false q3, if_neg (by simp)], .inr ⟨by omega, by omega, by omega, by omega, by omega⟩⟩
def smallB (x : Blk) : Prop := x.1.length ≤ 1048576 ∧ x.2.1.length ≤ 1048576 ∧ x.2.2.length ≤ 1048576
theorem szBlockS_ok {k : Nat} (hk : KK ≤ k) {a : List Blk} {e : TypeId} {left : Int} (h0 : 0 ≤ left) (h1 : left ≤ 1048576) (ha : InR (.sl e (.st (.pr .str (.pr .str .str)))) a) : ∃ r, laws_szBlockS k a left = some r ∧ (r < 0 ∨ (0 ≤ r ∧ r ≤ left ∧ a.length ≤ 1048576 ∧ ∀ x ∈ a, smallB x)) := by
  obtain ⟨hl, hx⟩ := ha
  unfold laws_szBlockS
  rw [w_id (by omega) (by omega)]
  by_cases h : left - (a.length : Int) < 0
  · exact ⟨-1, by simp [h], .inl (by omega)⟩
  · simp only [decide_eq_true_eq, h, if_false]
    let G : List Blk → Int → Option Int := fun l r => l.foldr (fun x k r => (laws_szBlock x r).bind fun q => if q < 0 then some (-1) else k q) (fun r => some r) r
    have hsz : ∀ x ∈ a, ∀ r : Int, 0 ≤ r → r ≤ left → _ := fun x hx' r hr1 hr2 => szBlock_ok (x := x) (left := r) hr1 (by omega) (by have : InR (.st (.pr .str (.pr .str .str))) x := hx x hx'; have := this.1; exact Nat.le_trans this (by omega)) (by have : InR (.st (.pr .str (.pr .str .str))) x := hx x hx'; have := this.2.1; exact Nat.le_trans this (by omega)) (by have : InR (.st (.pr .str (.pr .str .str))) x := hx x hx'; have := this.2.2; exact Nat.le_trans this (by omega))
    have := loop_list (L := fun n i r => laws_szBlockS_l0 k n a r i fun left => some left) (I := fun pre r => r ≤ left ∧ 0 ≤ r) (G := G) a ?_ ?_ k (by have := KK_def; omega) (left - a.length) ⟨by omega, by omega⟩
    · rw [this]
      have key : ∀ (l : List Blk) (r : Int), (∀ x ∈ l, x ∈ a) → 0 ≤ r → r ≤ left → ∃ q, G l r = some q ∧ (q < 0 ∨ (0 ≤ q ∧ q ≤ left ∧ ∀ x ∈ l, smallB x)) := by
        intro l
        induction l with
        | nil => exact fun r _ h2 h3 => ⟨r, rfl, .inr ⟨h2, h3, by simp⟩⟩
        | cons x l ih =>
          intro r hm h2 h3
          obtain ⟨q0, e1, e2⟩ := hsz x (hm x (by simp)) r h2 h3
          show ∃ q, (laws_szBlock x r).bind (fun q => if q < 0 then some (-1) else G l q) = some q ∧ _
          rw [e1]
          simp only [Option.bind_some]
          rcases e2 with e2 | ⟨e2, e3, e4⟩
          · exact ⟨-1, by rw [if_pos e2], .inl (by omega)⟩
          · obtain ⟨q, q1, q2⟩ := ih q0 (fun y hy => hm y (by simp [hy])) e2 (by omega)
            refine ⟨q, by rw [if_neg (by omega)]; exact q1, q2.imp id fun q3 => ⟨q3.1, q3.2.1, fun y hy => ?_⟩⟩
            rcases List.mem_cons.1 hy with rfl | hy
            · exact e4
            · exact q3.2.2 y hy
      obtain ⟨q, q1, q2⟩ := key a (left - a.length) (fun _ h => h) (by omega) (by omega)
      exact ⟨q, q1, q2.imp id fun q3 => ⟨q3.1, q3.2.1, by omega, q3.2.2⟩⟩
    · intro n pre x post r hax hr ih hg hlt
      have hw := w_succ (i := pre.length) (by omega)
      obtain ⟨q0, e1, e2⟩ := hsz x (by rw [hax]; simp) r hr.2 hr.1
      show _ = (laws_szBlock x r).bind (fun q => if q < 0 then some (-1) else G post q)
      simp only [laws_szBlockS_l0, hlt, hg, decide_true, if_true, Int.natCast_nonneg, Int.toNat_natCast, Option.bind_some, hw, e1]
      by_cases hq : q0 < 0
      · rw [decide_eq_true hq, if_pos rfl, if_pos hq]
      · rw [decide_eq_false hq, if_neg (by simp), if_neg hq]
        refine ih _ ⟨?_, by omega⟩
        rcases e2 with e2 | ⟨_, e3, _⟩
        · omega
        · omega
    · intro n r hr
      simp [laws_szBlockS_l0, G]
theorem l29Same_ok {k : Nat} (hk : KK ≤ k) {a b : List Blk} (ha : a.length < 4611686018427387904) : spec_l29Same k a b = some (decide (a = b)) := by
  unfold spec_l29Same
  by_cases hl : a.length = b.length
  · rw [if_neg (by simp [hl])]
    refine loop_eq (L := fun n i => spec_l29Same_l0 k n a b i (some true)) a b hl ?_ ?_ (n := k) (by have := KK_def; omega)
    · intro n i x y hx hy hlt
      have hw := w_succ (i := i) (by omega)
      simp only [spec_l29Same_l0, hlt, decide_true, if_true, Int.natCast_nonneg, Int.toNat_natCast, hx, hy, Option.bind_some, hw]
      by_cases e : x = y
      · rw [if_pos e, decide_eq_true e, if_neg (by simp)]
      · rw [if_neg e, decide_eq_false e, if_pos (by simp)]
    · intro n
      simp [spec_l29Same_l0]
  · have h2 : a ≠ b := fun e => hl (by rw [e])
    have h3 : ¬ (a.length : Int) = b.length := by omega
    simp [h3, h2]
theorem equalBlock_ok {k : Nat} (hk : KK ≤ k) {a b : List Blk} (ha : a.length < 4611686018427387904) : slices_Equal_impl_Block k a b = some (decide (a = b)) := by
  unfold slices_Equal_impl_Block
  by_cases hl : a.length = b.length
  · rw [if_neg (by simp [hl])]
    refine loop_eq (L := fun n i => slices_Equal_impl_Block_l0 k n a b (a.length : Int) i (some true)) a b hl ?_ ?_ (n := k) (by have := KK_def; omega)
    · intro n i x y hx hy hlt
      have hw := w_succ (i := i) (by omega)
      simp only [slices_Equal_impl_Block_l0, hlt, decide_true, if_true, Int.natCast_nonneg, Int.toNat_natCast, hx, hy, Option.bind_some, hw]
      by_cases e : x = y
      · rw [if_pos e, decide_eq_true e, if_neg (by simp)]
      · rw [if_neg e, decide_eq_false e, if_pos (by simp)]
    · intro n
      simp [slices_Equal_impl_Block_l0]
  · have h2 : a ≠ b := fun e => hl (by rw [e])
    have h3 : ¬ (a.length : Int) = b.length := by omega
    simp [h3, h2]
theorem pure_FnExactSameBlocks {e e' : TypeId} (a0 a1 : List Blk) (f0 : InR (.sl e (.st (.pr .str (.pr .str .str)))) a0) (f1 : InR (.sl e' (.st (.pr .str (.pr .str .str)))) a1) : ∃ k : Nat, laws_FnExactSameBlocks k a0 a1 = some true := by
  have hk := Nat.le_refl KK
  refine ⟨KK, ?_⟩
  unfold laws_FnExactSameBlocks spec_SameBlocks impl_SameBlocks
  obtain ⟨r, hr, h⟩ := szBlockS_ok hk (a := a0) (left := 1048576) (by omega) (by omega) f0
  rw [hr]; simp only [Option.bind_some]
  rcases h with h | ⟨h1, h2, h3, h4⟩
  · rw [decide_eq_true h, if_pos rfl]
  · rw [decide_eq_false (by omega), if_neg (by simp)]
    obtain ⟨r', hr', h'⟩ := szBlockS_ok hk (a := a1) (left := r) (by omega) (by omega) f1
    rw [hr']; simp only [Option.bind_some]
    rcases h' with h' | ⟨h1', h2', h3', h4'⟩
    · rw [decide_eq_true h', if_pos rfl]
    · rw [decide_eq_false (by omega), if_neg (by simp)]
      simp [toBlockS_ok hk h3, toBlockS_ok hk h3', l29Same_ok hk (show a0.length < 4611686018427387904 by omega), equalBlock_ok hk (show a0.length < 4611686018427387904 by omega), eqBlockS_ok hk (show a0.length < 4611686018427387904 by omega), eqBlockS_ok hk (show a1.length < 4611686018427387904 by omega)]
end Go.Proofs.Ytlcophcnioaaoaa.Ev
