/- Plain laws of the printed functions. No conditions but those in each statement. -/
import Derived.Test.YtackggcodaolaaaEv5
import Derived.Test.YtackggcodaolaaaG9
set_option linter.unusedVariables false
set_option linter.unusedSimpArgs false
namespace Go.Proofs.Ytackggcodaolaaa.Ev
open Go.RowKit
def sumL {α : Type} (f : α → Nat) (l : List α) : Nat := (l.map f).sum
theorem sumL_nil {α : Type} (f : α → Nat) : sumL f [] = 0 := rfl
theorem sumL_cons {α : Type} (f : α → Nat) (x : α) (l : List α) : sumL f (x :: l) = f x + sumL f l := by simp [sumL]
theorem sumL_append {α : Type} (f : α → Nat) (l m : List α) : sumL f (l ++ m) = sumL f l + sumL f m := by simp [sumL]
theorem sumL_mem {α : Type} (f : α → Nat) {x : α} {l : List α} (h : x ∈ l) : f x ≤ sumL f l := by
  induction l with
  | nil => cases h
  | cons y l ih =>
    rw [sumL_cons]
    rcases List.mem_cons.1 h with rfl | h
    · omega
    · have := ih h; omega
/-- Sizes gathered, until they are too great. -/
theorem loop_sz {α : Type} (xs : List α) {s : α → Nat} {L : Nat → Int → Int → Option Int}
    (h1 : ∀ n (i : Nat) x r, xs[i]? = some x → (i : Int) < xs.length → x ∈ xs → 0 ≤ r → r ≤ 1048576 → L (n + 1) (i : Int) r = if (s x : Int) ≤ r then L n ((i + 1 : Nat) : Int) (r - (s x : Int)) else some (-1))
    (h2 : ∀ n r, L (n + 1) (xs.length : Int) r = some r) {n : Nat} (hn : xs.length < n) {r : Int} (h0 : 0 ≤ r) (hr : r ≤ 1048576) : L n 0 r = some (if (sumL s xs : Int) ≤ r then r - (sumL s xs : Int) else -1) := by
  refine loop_list (L := L) (I := fun _ r => 0 ≤ r ∧ r ≤ 1048576) (G := fun post r => some (if (sumL s post : Int) ≤ r then r - (sumL s post : Int) else -1)) xs ?_ ?_ n hn r ⟨h0, hr⟩
  · intro n pre x post r hx hI ih hg hlt
    rw [h1 n pre.length x r hg hlt (List.mem_of_getElem? hg) hI.1 hI.2]
    have hc : sumL s (x :: post) = s x + sumL s post := sumL_cons _ _ _
    by_cases c : (s x : Int) ≤ r
    · rw [if_pos c, ih (r - (s x : Int)) ⟨by omega, by omega⟩]
      by_cases c2 : (sumL s post : Int) ≤ r - (s x : Int)
      · rw [if_pos c2, if_pos (by omega)]; congr 1; omega
      · rw [if_neg c2, if_neg (by omega)]
    · rw [if_neg c, if_neg (by omega)]
  · intro n r hI
    rw [h2, sumL_nil, if_pos (by simpa using hI.1)]; simp
instance dec_Int64S : DecidableEq (List Int) := inferInstance
def sz_Int64S (a : List Int) : Nat := a.length
theorem szInt64S_ok {a : List Int} {e0 : TypeId} {left : Int} (h0 : 0 ≤ left) (h1 : left ≤ 1048576) (h : InR (.sl e0 (.int .i64)) a) : laws_szInt64S a left = some (if (sz_Int64S a : Int) ≤ left then left - (sz_Int64S a : Int) else -1) := by
  have hl : a.length ≤ 140737488351232 := h.1
  have hs : sz_Int64S a = a.length := rfl
  unfold laws_szInt64S
  rw [hs, w_id (by omega) (by omega)]
  by_cases c : (a.length : Int) ≤ left
  · rw [decide_eq_false (by omega), if_neg (by simp), if_pos c]
  · rw [decide_eq_true (by omega), if_pos rfl, if_neg c]
instance dec_Int64SS : DecidableEq (List (List Int)) := inferInstance
def sz_Int64SS (a : List (List Int)) : Nat := a.length + sumL sz_Int64S a
theorem szInt64SS_ok {k : Nat} (hk : KK ≤ k) {a : List (List Int)} {e0 e1 : TypeId} {left : Int} (h0 : 0 ≤ left) (h1 : left ≤ 1048576) (h : InR (.sl e0 (.sl e1 (.int .i64))) a) : laws_szInt64SS k a left = some (if (sz_Int64SS a : Int) ≤ left then left - (sz_Int64SS a : Int) else -1) := by
  have hl : a.length ≤ 140737488351232 := h.1
  have hs : sz_Int64SS a = a.length + sumL sz_Int64S a := rfl
  have hK := KK_def
  unfold laws_szInt64SS
  rw [hs, w_id (by omega) (by omega)]
  by_cases c : (a.length : Int) ≤ left
  · rw [decide_eq_false (by omega), if_neg (by simp)]
    refine Eq.trans (loop_sz (L := fun n i r => laws_szInt64SS_l0 k n a r i fun r => some r) (s := sz_Int64S) a ?_ ?_ (n := k) (by omega) (r := left - (a.length : Int)) (by omega) (by omega)) ?_
    · intro n i x r hi hlt hm r0 r1
      have hw := w_succ (i := i) (by omega)
      have hx := szInt64S_ok (a := x) r0 r1 (h.2 x hm)
      simp only [laws_szInt64SS_l0, hlt, decide_true, if_true, Int.natCast_nonneg, Int.toNat_natCast, hi, Option.bind_some, hw, hx]
      by_cases c2 : (sz_Int64S x : Int) ≤ r
      · rw [if_pos c2, decide_eq_false (by omega), if_neg (by simp), if_pos c2]
      · rw [if_neg c2, decide_eq_true (by omega), if_pos rfl, if_neg c2]
    · intro n r
      simp [laws_szInt64SS_l0]
    · by_cases c2 : (sumL sz_Int64S a : Int) ≤ left - (a.length : Int)
      · rw [if_pos c2, if_pos (by omega)]; congr 1; omega
      · rw [if_neg c2, if_neg (by omega)]
  · rw [decide_eq_true (by omega), if_pos rfl, if_neg (by omega)]
instance dec_Complex : DecidableEq (List (List Int)) := inferInstance
def sz_Complex (a : List (List Int)) : Nat := (sz_Int64SS a)
theorem szComplex_ok {k : Nat} (hk : KK ≤ k) {a : List (List Int)} {e0 e1 : TypeId} {left : Int} (h0 : 0 ≤ left) (h1 : left ≤ 1048576) (h : InR (.st (.sl e0 (.sl e1 (.int .i64)))) a) : laws_szComplex k a left = some (if (sz_Complex a : Int) ≤ left then left - (sz_Complex a : Int) else -1) := by
  have hs : sz_Complex a = (sz_Int64SS a) := rfl
  unfold laws_szComplex
  rw [hs]
  have q0 := szInt64SS_ok hk (a := a) (left := left) (by omega) (by omega) h
  rw [q0]
  by_cases c0 : ((sz_Int64SS a) : Int) ≤ left
  case neg => rw [if_neg c0]; simp only [Option.bind_some]; rw [decide_eq_true (by omega), if_pos rfl]
  rw [if_pos c0]; simp only [Option.bind_some]
  rw [decide_eq_false (by omega), if_neg (by simp)]
instance dec_Matrix_2 : DecidableEq (Int × List Int) := inferInstance
instance dec_Matrix_1 : DecidableEq (Int × Int × List Int) := inferInstance
instance dec_Matrix : DecidableEq (Int × Int × Int × List Int) := inferInstance
def sz_Matrix (a : Int × Int × Int × List Int) : Nat := (sz_Int64S (a.2.2.2))
theorem szMatrix_ok {a : Int × Int × Int × List Int} {e0 : TypeId} {left : Int} (h0 : 0 ≤ left) (h1 : left ≤ 1048576) (h : InR (.st (.pr (.int .i64) (.pr (.int .i64) (.pr (.int .i64) (.sl e0 (.int .i64)))))) a) : laws_szMatrix a left = some (if (sz_Matrix a : Int) ≤ left then left - (sz_Matrix a : Int) else -1) := by
  have hs : sz_Matrix a = (sz_Int64S (a.2.2.2)) := rfl
  unfold laws_szMatrix
  rw [hs]
  have q0 := szInt64S_ok (a := a.2.2.2) (left := left) (by omega) (by omega) h.2.2.2
  rw [q0]
  by_cases c0 : ((sz_Int64S (a.2.2.2)) : Int) ≤ left
  case neg => rw [if_neg c0]; simp only [Option.bind_some]; rw [decide_eq_true (by omega), if_pos rfl]
  rw [if_pos c0]; simp only [Option.bind_some]
  rw [decide_eq_false (by omega), if_neg (by simp)]
instance dec_MatrixS : DecidableEq (List (Int × Int × Int × List Int)) := inferInstance
def sz_MatrixS (a : List (Int × Int × Int × List Int)) : Nat := a.length + sumL sz_Matrix a
theorem szMatrixS_ok {k : Nat} (hk : KK ≤ k) {a : List (Int × Int × Int × List Int)} {e0 e1 : TypeId} {left : Int} (h0 : 0 ≤ left) (h1 : left ≤ 1048576) (h : InR (.sl e0 (.st (.pr (.int .i64) (.pr (.int .i64) (.pr (.int .i64) (.sl e1 (.int .i64))))))) a) : laws_szMatrixS k a left = some (if (sz_MatrixS a : Int) ≤ left then left - (sz_MatrixS a : Int) else -1) := by
  have hl : a.length ≤ 140737488351232 := h.1
  have hs : sz_MatrixS a = a.length + sumL sz_Matrix a := rfl
  have hK := KK_def
  unfold laws_szMatrixS
  rw [hs, w_id (by omega) (by omega)]
  by_cases c : (a.length : Int) ≤ left
  · rw [decide_eq_false (by omega), if_neg (by simp)]
    refine Eq.trans (loop_sz (L := fun n i r => laws_szMatrixS_l0 k n a r i fun r => some r) (s := sz_Matrix) a ?_ ?_ (n := k) (by omega) (r := left - (a.length : Int)) (by omega) (by omega)) ?_
    · intro n i x r hi hlt hm r0 r1
      have hw := w_succ (i := i) (by omega)
      have hx := szMatrix_ok (a := x) r0 r1 (h.2 x hm)
      simp only [laws_szMatrixS_l0, hlt, decide_true, if_true, Int.natCast_nonneg, Int.toNat_natCast, hi, Option.bind_some, hw, hx]
      by_cases c2 : (sz_Matrix x : Int) ≤ r
      · rw [if_pos c2, decide_eq_false (by omega), if_neg (by simp), if_pos c2]
      · rw [if_neg c2, decide_eq_true (by omega), if_pos rfl, if_neg c2]
    · intro n r
      simp [laws_szMatrixS_l0]
    · by_cases c2 : (sumL sz_Matrix a : Int) ≤ left - (a.length : Int)
      · rw [if_pos c2, if_pos (by omega)]; congr 1; omega
      · rw [if_neg c2, if_neg (by omega)]
  · rw [decide_eq_true (by omega), if_pos rfl, if_neg (by omega)]
instance dec_Sheaf_2 : DecidableEq (List Int × (List (Int × Int × Int × List Int))) := inferInstance
instance dec_Sheaf_1 : DecidableEq (Int × List Int × (List (Int × Int × Int × List Int))) := inferInstance
instance dec_Sheaf : DecidableEq (List (List Int) × Int × List Int × (List (Int × Int × Int × List Int))) := inferInstance
def sz_Sheaf (a : List (List Int) × Int × List Int × (List (Int × Int × Int × List Int))) : Nat := (sz_Complex (a.1)) + (sz_Int64S (a.2.2.1)) + (sz_MatrixS (a.2.2.2))
theorem szSheaf_ok {k : Nat} (hk : KK ≤ k) {a : List (List Int) × Int × List Int × (List (Int × Int × Int × List Int))} {e0 e1 e2 e3 e4 : TypeId} {left : Int} (h0 : 0 ≤ left) (h1 : left ≤ 1048576) (h : InR (.st (.pr (.st (.sl e0 (.sl e1 (.int .i64)))) (.pr (.int .i64) (.pr (.sl e2 (.int .i64)) (.sl e3 (.st (.pr (.int .i64) (.pr (.int .i64) (.pr (.int .i64) (.sl e4 (.int .i64))))))))))) a) : laws_szSheaf k a left = some (if (sz_Sheaf a : Int) ≤ left then left - (sz_Sheaf a : Int) else -1) := by
  have hs : sz_Sheaf a = (sz_Complex (a.1)) + (sz_Int64S (a.2.2.1)) + (sz_MatrixS (a.2.2.2)) := rfl
  unfold laws_szSheaf
  rw [hs]
  have q0 := szComplex_ok hk (a := a.1) (left := left) (by omega) (by omega) h.1
  rw [q0]
  by_cases c0 : ((sz_Complex (a.1)) : Int) ≤ left
  case neg => rw [if_neg c0]; simp only [Option.bind_some]; rw [decide_eq_true (by omega), if_pos rfl, if_neg (by omega)]
  rw [if_pos c0]; simp only [Option.bind_some]
  rw [decide_eq_false (by omega), if_neg (by simp)]
  have q1 := szInt64S_ok (a := a.2.2.1) (left := left - ((sz_Complex (a.1)) : Int)) (by omega) (by omega) h.2.2.1
  rw [q1]
  by_cases c1 : ((sz_Int64S (a.2.2.1)) : Int) ≤ left - ((sz_Complex (a.1)) : Int)
  case neg => rw [if_neg c1]; simp only [Option.bind_some]; rw [decide_eq_true (by omega), if_pos rfl, if_neg (by omega)]
  rw [if_pos c1]; simp only [Option.bind_some]
  rw [decide_eq_false (by omega), if_neg (by simp)]
  have q2 := szMatrixS_ok hk (a := a.2.2.2) (left := left - ((sz_Complex (a.1)) : Int) - ((sz_Int64S (a.2.2.1)) : Int)) (by omega) (by omega) h.2.2.2
  rw [q2]
  by_cases c2 : ((sz_MatrixS (a.2.2.2)) : Int) ≤ left - ((sz_Complex (a.1)) : Int) - ((sz_Int64S (a.2.2.1)) : Int)
  case neg => rw [if_neg c2]; simp only [Option.bind_some]; rw [decide_eq_true (by omega), if_pos rfl, if_neg (by omega)]
  rw [if_pos c2]; simp only [Option.bind_some]
  rw [decide_eq_false (by omega), if_neg (by simp)]
  rw [if_pos (by omega)]; congr 1; omega
instance dec_EdgeS : DecidableEq (List (Int × Int × Int)) := inferInstance
def sz_EdgeS (a : List (Int × Int × Int)) : Nat := a.length
theorem szEdgeS_ok {a : List (Int × Int × Int)} {e0 : TypeId} {left : Int} (h0 : 0 ≤ left) (h1 : left ≤ 1048576) (h : InR (.sl e0 (.st (.pr (.int .i64) (.pr (.int .i64) (.int .i64))))) a) : laws_szEdgeS a left = some (if (sz_EdgeS a : Int) ≤ left then left - (sz_EdgeS a : Int) else -1) := by
  have hl : a.length ≤ 140737488351232 := h.1
  have hs : sz_EdgeS a = a.length := rfl
  unfold laws_szEdgeS
  rw [hs, w_id (by omega) (by omega)]
  by_cases c : (a.length : Int) ≤ left
  · rw [decide_eq_false (by omega), if_neg (by simp), if_pos c]
  · rw [decide_eq_true (by omega), if_pos rfl, if_neg c]
instance dec_Graph : DecidableEq (Int × (List (Int × Int × Int))) := inferInstance
def sz_Graph (a : Int × (List (Int × Int × Int))) : Nat := (sz_EdgeS (a.2))
theorem szGraph_ok {a : Int × (List (Int × Int × Int))} {e0 : TypeId} {left : Int} (h0 : 0 ≤ left) (h1 : left ≤ 1048576) (h : InR (.st (.pr (.int .i64) (.sl e0 (.st (.pr (.int .i64) (.pr (.int .i64) (.int .i64))))))) a) : laws_szGraph a left = some (if (sz_Graph a : Int) ≤ left then left - (sz_Graph a : Int) else -1) := by
  have hs : sz_Graph a = (sz_EdgeS (a.2)) := rfl
  unfold laws_szGraph
  rw [hs]
  have q0 := szEdgeS_ok (a := a.2) (left := left) (by omega) (by omega) h.2
  rw [q0]
  by_cases c0 : ((sz_EdgeS (a.2)) : Int) ≤ left
  case neg => rw [if_neg c0]; simp only [Option.bind_some]; rw [decide_eq_true (by omega), if_pos rfl]
  rw [if_pos c0]; simp only [Option.bind_some]
  rw [decide_eq_false (by omega), if_neg (by simp)]
instance dec_Table : DecidableEq (List Int × List (List Int)) := inferInstance
def sz_Table (a : List Int × List (List Int)) : Nat := (sz_Int64S (a.1)) + (sz_Int64SS (a.2))
theorem szTable_ok {k : Nat} (hk : KK ≤ k) {a : List Int × List (List Int)} {e0 e1 e2 : TypeId} {left : Int} (h0 : 0 ≤ left) (h1 : left ≤ 1048576) (h : InR (.st (.pr (.sl e0 (.int .i64)) (.sl e1 (.sl e2 (.int .i64))))) a) : laws_szTable k a left = some (if (sz_Table a : Int) ≤ left then left - (sz_Table a : Int) else -1) := by
  have hs : sz_Table a = (sz_Int64S (a.1)) + (sz_Int64SS (a.2)) := rfl
  unfold laws_szTable
  rw [hs]
  have q0 := szInt64S_ok (a := a.1) (left := left) (by omega) (by omega) h.1
  rw [q0]
  by_cases c0 : ((sz_Int64S (a.1)) : Int) ≤ left
  case neg => rw [if_neg c0]; simp only [Option.bind_some]; rw [decide_eq_true (by omega), if_pos rfl, if_neg (by omega)]
  rw [if_pos c0]; simp only [Option.bind_some]
  rw [decide_eq_false (by omega), if_neg (by simp)]
  have q1 := szInt64SS_ok hk (a := a.2) (left := left - ((sz_Int64S (a.1)) : Int)) (by omega) (by omega) h.2
  rw [q1]
  by_cases c1 : ((sz_Int64SS (a.2)) : Int) ≤ left - ((sz_Int64S (a.1)) : Int)
  case neg => rw [if_neg c1]; simp only [Option.bind_some]; rw [decide_eq_true (by omega), if_pos rfl, if_neg (by omega)]
  rw [if_pos c1]; simp only [Option.bind_some]
  rw [decide_eq_false (by omega), if_neg (by simp)]
  rw [if_pos (by omega)]; congr 1; omega
instance dec_TableS : DecidableEq (List (List Int × List (List Int))) := inferInstance
def sz_TableS (a : List (List Int × List (List Int))) : Nat := a.length + sumL sz_Table a
theorem szTableS_ok {k : Nat} (hk : KK ≤ k) {a : List (List Int × List (List Int))} {e0 e1 e2 e3 : TypeId} {left : Int} (h0 : 0 ≤ left) (h1 : left ≤ 1048576) (h : InR (.sl e0 (.st (.pr (.sl e1 (.int .i64)) (.sl e2 (.sl e3 (.int .i64)))))) a) : laws_szTableS k a left = some (if (sz_TableS a : Int) ≤ left then left - (sz_TableS a : Int) else -1) := by
  have hl : a.length ≤ 140737488351232 := h.1
  have hs : sz_TableS a = a.length + sumL sz_Table a := rfl
  have hK := KK_def
  unfold laws_szTableS
  rw [hs, w_id (by omega) (by omega)]
  by_cases c : (a.length : Int) ≤ left
  · rw [decide_eq_false (by omega), if_neg (by simp)]
    refine Eq.trans (loop_sz (L := fun n i r => laws_szTableS_l0 k n a r i fun r => some r) (s := sz_Table) a ?_ ?_ (n := k) (by omega) (r := left - (a.length : Int)) (by omega) (by omega)) ?_
    · intro n i x r hi hlt hm r0 r1
      have hw := w_succ (i := i) (by omega)
      have hx := szTable_ok hk (a := x) r0 r1 (h.2 x hm)
      simp only [laws_szTableS_l0, hlt, decide_true, if_true, Int.natCast_nonneg, Int.toNat_natCast, hi, Option.bind_some, hw, hx]
      by_cases c2 : (sz_Table x : Int) ≤ r
      · rw [if_pos c2, decide_eq_false (by omega), if_neg (by simp), if_pos c2]
      · rw [if_neg c2, decide_eq_true (by omega), if_pos rfl, if_neg c2]
    · intro n r
      simp [laws_szTableS_l0]
    · by_cases c2 : (sumL sz_Table a : Int) ≤ left - (a.length : Int)
      · rw [if_pos c2, if_pos (by omega)]; congr 1; omega
      · rw [if_neg c2, if_neg (by omega)]
  · rw [decide_eq_true (by omega), if_pos rfl, if_neg (by omega)]
instance dec_Filtration : DecidableEq (List (List Int) × List Int) := inferInstance
def sz_Filtration (a : List (List Int) × List Int) : Nat := (sz_Complex (a.1)) + (sz_Int64S (a.2))
theorem szFiltration_ok {k : Nat} (hk : KK ≤ k) {a : List (List Int) × List Int} {e0 e1 e2 : TypeId} {left : Int} (h0 : 0 ≤ left) (h1 : left ≤ 1048576) (h : InR (.st (.pr (.st (.sl e0 (.sl e1 (.int .i64)))) (.sl e2 (.int .i64)))) a) : laws_szFiltration k a left = some (if (sz_Filtration a : Int) ≤ left then left - (sz_Filtration a : Int) else -1) := by
  have hs : sz_Filtration a = (sz_Complex (a.1)) + (sz_Int64S (a.2)) := rfl
  unfold laws_szFiltration
  rw [hs]
  have q0 := szComplex_ok hk (a := a.1) (left := left) (by omega) (by omega) h.1
  rw [q0]
  by_cases c0 : ((sz_Complex (a.1)) : Int) ≤ left
  case neg => rw [if_neg c0]; simp only [Option.bind_some]; rw [decide_eq_true (by omega), if_pos rfl, if_neg (by omega)]
  rw [if_pos c0]; simp only [Option.bind_some]
  rw [decide_eq_false (by omega), if_neg (by simp)]
  have q1 := szInt64S_ok (a := a.2) (left := left - ((sz_Complex (a.1)) : Int)) (by omega) (by omega) h.2
  rw [q1]
  by_cases c1 : ((sz_Int64S (a.2)) : Int) ≤ left - ((sz_Complex (a.1)) : Int)
  case neg => rw [if_neg c1]; simp only [Option.bind_some]; rw [decide_eq_true (by omega), if_pos rfl, if_neg (by omega)]
  rw [if_pos c1]; simp only [Option.bind_some]
  rw [decide_eq_false (by omega), if_neg (by simp)]
  rw [if_pos (by omega)]; congr 1; omega
instance dec_StringS : DecidableEq (List (List UInt8)) := inferInstance
def sz_StringS (a : List (List UInt8)) : Nat := a.length + sumL List.length a
theorem szStringS_ok {k : Nat} (hk : KK ≤ k) {a : List (List UInt8)} {e0 : TypeId} {left : Int} (h0 : 0 ≤ left) (h1 : left ≤ 1048576) (h : InR (.sl e0 .str) a) : laws_szStringS k a left = some (if (sz_StringS a : Int) ≤ left then left - (sz_StringS a : Int) else -1) := by
  have hl : a.length ≤ 140737488351232 := h.1
  have hs : sz_StringS a = a.length + sumL List.length a := rfl
  have hK := KK_def
  unfold laws_szStringS
  rw [hs, w_id (by omega) (by omega)]
  by_cases c : (a.length : Int) ≤ left
  · rw [decide_eq_false (by omega), if_neg (by simp)]
    refine Eq.trans (loop_sz (L := fun n i r => laws_szStringS_l0 k n a r i fun r => some r) (s := List.length) a ?_ ?_ (n := k) (by omega) (r := left - (a.length : Int)) (by omega) (by omega)) ?_
    · intro n i x r hi hlt hm r0 r1
      have hw := w_succ (i := i) (by omega)
      have hxl : List.length x ≤ 140737488351232 := h.2 x hm
      have hs : w_i64 (r - (x.length : Int)) = r - x.length := w_id (by omega) (by omega)
      simp only [laws_szStringS_l0, hlt, decide_true, if_true, Int.natCast_nonneg, Int.toNat_natCast, hi, Option.bind_some, hw, hs]
      by_cases c2 : (x.length : Int) ≤ r
      · rw [decide_eq_false (by omega), if_neg (by simp), if_pos c2]
      · rw [decide_eq_true (by omega), if_pos rfl, if_neg c2]
    · intro n r
      simp [laws_szStringS_l0]
    · by_cases c2 : (sumL List.length a : Int) ≤ left - (a.length : Int)
      · rw [if_pos c2, if_pos (by omega)]; congr 1; omega
      · rw [if_neg c2, if_neg (by omega)]
  · rw [decide_eq_true (by omega), if_pos rfl, if_neg (by omega)]
instance dec_Item_2 : DecidableEq (Int × Int) := inferInstance
instance dec_Item_1 : DecidableEq (List (List UInt8) × Int × Int) := inferInstance
instance dec_Item : DecidableEq (List UInt8 × List (List UInt8) × Int × Int) := inferInstance
def sz_Item (a : List UInt8 × List (List UInt8) × Int × Int) : Nat := (List.length (a.1)) + (sz_StringS (a.2.1))
theorem szItem_ok {k : Nat} (hk : KK ≤ k) {a : List UInt8 × List (List UInt8) × Int × Int} {e0 : TypeId} {left : Int} (h0 : 0 ≤ left) (h1 : left ≤ 1048576) (h : InR (.st (.pr .str (.pr (.sl e0 .str) (.pr (.int .i64) (.int .i64))))) a) : laws_szItem k a left = some (if (sz_Item a : Int) ≤ left then left - (sz_Item a : Int) else -1) := by
  have hs : sz_Item a = (List.length (a.1)) + (sz_StringS (a.2.1)) := rfl
  unfold laws_szItem
  rw [hs]
  have hl0 : List.length (a.1) ≤ 140737488351232 := h.1
  rw [w_id (x := left - (List.length (a.1) : Int)) (by omega) (by omega)]
  by_cases c0 : (List.length (a.1) : Int) ≤ left
  case neg => rw [decide_eq_true (by omega), if_pos rfl, if_neg (by omega)]
  rw [decide_eq_false (by omega), if_neg (by simp)]
  have q1 := szStringS_ok hk (a := a.2.1) (left := left - ((List.length (a.1)) : Int)) (by omega) (by omega) h.2.1
  rw [q1]
  by_cases c1 : ((sz_StringS (a.2.1)) : Int) ≤ left - ((List.length (a.1)) : Int)
  case neg => rw [if_neg c1]; simp only [Option.bind_some]; rw [decide_eq_true (by omega), if_pos rfl, if_neg (by omega)]
  rw [if_pos c1]; simp only [Option.bind_some]
  rw [decide_eq_false (by omega), if_neg (by simp)]
  rw [if_pos (by omega)]; congr 1; omega
instance dec_ItemS : DecidableEq (List (List UInt8 × List (List UInt8) × Int × Int)) := inferInstance
def sz_ItemS (a : List (List UInt8 × List (List UInt8) × Int × Int)) : Nat := a.length + sumL sz_Item a
theorem szItemS_ok {k : Nat} (hk : KK ≤ k) {a : List (List UInt8 × List (List UInt8) × Int × Int)} {e0 e1 : TypeId} {left : Int} (h0 : 0 ≤ left) (h1 : left ≤ 1048576) (h : InR (.sl e0 (.st (.pr .str (.pr (.sl e1 .str) (.pr (.int .i64) (.int .i64)))))) a) : laws_szItemS k a left = some (if (sz_ItemS a : Int) ≤ left then left - (sz_ItemS a : Int) else -1) := by
  have hl : a.length ≤ 140737488351232 := h.1
  have hs : sz_ItemS a = a.length + sumL sz_Item a := rfl
  have hK := KK_def
  unfold laws_szItemS
  rw [hs, w_id (by omega) (by omega)]
  by_cases c : (a.length : Int) ≤ left
  · rw [decide_eq_false (by omega), if_neg (by simp)]
    refine Eq.trans (loop_sz (L := fun n i r => laws_szItemS_l0 k n a r i fun r => some r) (s := sz_Item) a ?_ ?_ (n := k) (by omega) (r := left - (a.length : Int)) (by omega) (by omega)) ?_
    · intro n i x r hi hlt hm r0 r1
      have hw := w_succ (i := i) (by omega)
      have hx := szItem_ok hk (a := x) r0 r1 (h.2 x hm)
      simp only [laws_szItemS_l0, hlt, decide_true, if_true, Int.natCast_nonneg, Int.toNat_natCast, hi, Option.bind_some, hw, hx]
      by_cases c2 : (sz_Item x : Int) ≤ r
      · rw [if_pos c2, decide_eq_false (by omega), if_neg (by simp), if_pos c2]
      · rw [if_neg c2, decide_eq_true (by omega), if_pos rfl, if_neg c2]
    · intro n r
      simp [laws_szItemS_l0]
    · by_cases c2 : (sumL sz_Item a : Int) ≤ left - (a.length : Int)
      · rw [if_pos c2, if_pos (by omega)]; congr 1; omega
      · rw [if_neg c2, if_neg (by omega)]
  · rw [decide_eq_true (by omega), if_pos rfl, if_neg (by omega)]
instance dec_Desk_6 : DecidableEq ((List (List Int) × List Int) × (List (List UInt8 × List (List UInt8) × Int × Int))) := inferInstance
instance dec_Desk_5 : DecidableEq ((List (List Int × List (List Int))) × (List (List Int) × List Int) × (List (List UInt8 × List (List UInt8) × Int × Int))) := inferInstance
instance dec_Desk_4 : DecidableEq ((Int × Int × Int × List Int) × (List (List Int × List (List Int))) × (List (List Int) × List Int) × (List (List UInt8 × List (List UInt8) × Int × Int))) := inferInstance
instance dec_Desk_3 : DecidableEq (List Int × (Int × Int × Int × List Int) × (List (List Int × List (List Int))) × (List (List Int) × List Int) × (List (List UInt8 × List (List UInt8) × Int × Int))) := inferInstance
instance dec_Desk_2 : DecidableEq ((Int × (List (Int × Int × Int))) × List Int × (Int × Int × Int × List Int) × (List (List Int × List (List Int))) × (List (List Int) × List Int) × (List (List UInt8 × List (List UInt8) × Int × Int))) := inferInstance
instance dec_Desk_1 : DecidableEq (List Int × (Int × (List (Int × Int × Int))) × List Int × (Int × Int × Int × List Int) × (List (List Int × List (List Int))) × (List (List Int) × List Int) × (List (List UInt8 × List (List UInt8) × Int × Int))) := inferInstance
instance dec_Desk : DecidableEq ((List (List Int) × Int × List Int × (List (Int × Int × Int × List Int))) × List Int × (Int × (List (Int × Int × Int))) × List Int × (Int × Int × Int × List Int) × (List (List Int × List (List Int))) × (List (List Int) × List Int) × (List (List UInt8 × List (List UInt8) × Int × Int))) := inferInstance
def sz_Desk (a : (List (List Int) × Int × List Int × (List (Int × Int × Int × List Int))) × List Int × (Int × (List (Int × Int × Int))) × List Int × (Int × Int × Int × List Int) × (List (List Int × List (List Int))) × (List (List Int) × List Int) × (List (List UInt8 × List (List UInt8) × Int × Int))) : Nat := (sz_Sheaf (a.1)) + (sz_Int64S (a.2.1)) + (sz_Graph (a.2.2.1)) + (sz_Int64S (a.2.2.2.1)) + (sz_Matrix (a.2.2.2.2.1)) + (sz_TableS (a.2.2.2.2.2.1)) + (sz_Filtration (a.2.2.2.2.2.2.1)) + (sz_ItemS (a.2.2.2.2.2.2.2))
theorem szDesk_ok {k : Nat} (hk : KK ≤ k) {a : (List (List Int) × Int × List Int × (List (Int × Int × Int × List Int))) × List Int × (Int × (List (Int × Int × Int))) × List Int × (Int × Int × Int × List Int) × (List (List Int × List (List Int))) × (List (List Int) × List Int) × (List (List UInt8 × List (List UInt8) × Int × Int))} {e0 e1 e2 e3 e4 e5 e6 e7 e8 e9 e10 e11 e12 e13 e14 e15 e16 e17 : TypeId} {left : Int} (h0 : 0 ≤ left) (h1 : left ≤ 1048576) (h : InR (.st (.pr (.st (.pr (.st (.sl e0 (.sl e1 (.int .i64)))) (.pr (.int .i64) (.pr (.sl e2 (.int .i64)) (.sl e3 (.st (.pr (.int .i64) (.pr (.int .i64) (.pr (.int .i64) (.sl e4 (.int .i64))))))))))) (.pr (.sl e5 (.int .i64)) (.pr (.st (.pr (.int .i64) (.sl e6 (.st (.pr (.int .i64) (.pr (.int .i64) (.int .i64))))))) (.pr (.sl e7 (.int .i64)) (.pr (.st (.pr (.int .i64) (.pr (.int .i64) (.pr (.int .i64) (.sl e8 (.int .i64)))))) (.pr (.sl e9 (.st (.pr (.sl e10 (.int .i64)) (.sl e11 (.sl e12 (.int .i64)))))) (.pr (.st (.pr (.st (.sl e13 (.sl e14 (.int .i64)))) (.sl e15 (.int .i64)))) (.sl e16 (.st (.pr .str (.pr (.sl e17 .str) (.pr (.int .i64) (.int .i64)))))))))))))) a) : laws_szDesk k a left = some (if (sz_Desk a : Int) ≤ left then left - (sz_Desk a : Int) else -1) := by
  have hs : sz_Desk a = (sz_Sheaf (a.1)) + (sz_Int64S (a.2.1)) + (sz_Graph (a.2.2.1)) + (sz_Int64S (a.2.2.2.1)) + (sz_Matrix (a.2.2.2.2.1)) + (sz_TableS (a.2.2.2.2.2.1)) + (sz_Filtration (a.2.2.2.2.2.2.1)) + (sz_ItemS (a.2.2.2.2.2.2.2)) := rfl
  unfold laws_szDesk
  rw [hs]
  have q0 := szSheaf_ok hk (a := a.1) (left := left) (by omega) (by omega) h.1
  rw [q0]
  by_cases c0 : ((sz_Sheaf (a.1)) : Int) ≤ left
  case neg => rw [if_neg c0]; simp only [Option.bind_some]; rw [decide_eq_true (by omega), if_pos rfl, if_neg (by omega)]
  rw [if_pos c0]; simp only [Option.bind_some]
  rw [decide_eq_false (by omega), if_neg (by simp)]
  have q1 := szInt64S_ok (a := a.2.1) (left := left - ((sz_Sheaf (a.1)) : Int)) (by omega) (by omega) h.2.1
  rw [q1]
  by_cases c1 : ((sz_Int64S (a.2.1)) : Int) ≤ left - ((sz_Sheaf (a.1)) : Int)
  case neg => rw [if_neg c1]; simp only [Option.bind_some]; rw [decide_eq_true (by omega), if_pos rfl, if_neg (by omega)]
  rw [if_pos c1]; simp only [Option.bind_some]
  rw [decide_eq_false (by omega), if_neg (by simp)]
  have q2 := szGraph_ok (a := a.2.2.1) (left := left - ((sz_Sheaf (a.1)) : Int) - ((sz_Int64S (a.2.1)) : Int)) (by omega) (by omega) h.2.2.1
  rw [q2]
  by_cases c2 : ((sz_Graph (a.2.2.1)) : Int) ≤ left - ((sz_Sheaf (a.1)) : Int) - ((sz_Int64S (a.2.1)) : Int)
  case neg => rw [if_neg c2]; simp only [Option.bind_some]; rw [decide_eq_true (by omega), if_pos rfl, if_neg (by omega)]
  rw [if_pos c2]; simp only [Option.bind_some]
  rw [decide_eq_false (by omega), if_neg (by simp)]
  have q3 := szInt64S_ok (a := a.2.2.2.1) (left := left - ((sz_Sheaf (a.1)) : Int) - ((sz_Int64S (a.2.1)) : Int) - ((sz_Graph (a.2.2.1)) : Int)) (by omega) (by omega) h.2.2.2.1
  rw [q3]
  by_cases c3 : ((sz_Int64S (a.2.2.2.1)) : Int) ≤ left - ((sz_Sheaf (a.1)) : Int) - ((sz_Int64S (a.2.1)) : Int) - ((sz_Graph (a.2.2.1)) : Int)
  case neg => rw [if_neg c3]; simp only [Option.bind_some]; rw [decide_eq_true (by omega), if_pos rfl, if_neg (by omega)]
  rw [if_pos c3]; simp only [Option.bind_some]
  rw [decide_eq_false (by omega), if_neg (by simp)]
  have q4 := szMatrix_ok (a := a.2.2.2.2.1) (left := left - ((sz_Sheaf (a.1)) : Int) - ((sz_Int64S (a.2.1)) : Int) - ((sz_Graph (a.2.2.1)) : Int) - ((sz_Int64S (a.2.2.2.1)) : Int)) (by omega) (by omega) h.2.2.2.2.1
  rw [q4]
  by_cases c4 : ((sz_Matrix (a.2.2.2.2.1)) : Int) ≤ left - ((sz_Sheaf (a.1)) : Int) - ((sz_Int64S (a.2.1)) : Int) - ((sz_Graph (a.2.2.1)) : Int) - ((sz_Int64S (a.2.2.2.1)) : Int)
  case neg => rw [if_neg c4]; simp only [Option.bind_some]; rw [decide_eq_true (by omega), if_pos rfl, if_neg (by omega)]
  rw [if_pos c4]; simp only [Option.bind_some]
  rw [decide_eq_false (by omega), if_neg (by simp)]
  have q5 := szTableS_ok hk (a := a.2.2.2.2.2.1) (left := left - ((sz_Sheaf (a.1)) : Int) - ((sz_Int64S (a.2.1)) : Int) - ((sz_Graph (a.2.2.1)) : Int) - ((sz_Int64S (a.2.2.2.1)) : Int) - ((sz_Matrix (a.2.2.2.2.1)) : Int)) (by omega) (by omega) h.2.2.2.2.2.1
  rw [q5]
  by_cases c5 : ((sz_TableS (a.2.2.2.2.2.1)) : Int) ≤ left - ((sz_Sheaf (a.1)) : Int) - ((sz_Int64S (a.2.1)) : Int) - ((sz_Graph (a.2.2.1)) : Int) - ((sz_Int64S (a.2.2.2.1)) : Int) - ((sz_Matrix (a.2.2.2.2.1)) : Int)
  case neg => rw [if_neg c5]; simp only [Option.bind_some]; rw [decide_eq_true (by omega), if_pos rfl, if_neg (by omega)]
  rw [if_pos c5]; simp only [Option.bind_some]
  rw [decide_eq_false (by omega), if_neg (by simp)]
  have q6 := szFiltration_ok hk (a := a.2.2.2.2.2.2.1) (left := left - ((sz_Sheaf (a.1)) : Int) - ((sz_Int64S (a.2.1)) : Int) - ((sz_Graph (a.2.2.1)) : Int) - ((sz_Int64S (a.2.2.2.1)) : Int) - ((sz_Matrix (a.2.2.2.2.1)) : Int) - ((sz_TableS (a.2.2.2.2.2.1)) : Int)) (by omega) (by omega) h.2.2.2.2.2.2.1
  rw [q6]
  by_cases c6 : ((sz_Filtration (a.2.2.2.2.2.2.1)) : Int) ≤ left - ((sz_Sheaf (a.1)) : Int) - ((sz_Int64S (a.2.1)) : Int) - ((sz_Graph (a.2.2.1)) : Int) - ((sz_Int64S (a.2.2.2.1)) : Int) - ((sz_Matrix (a.2.2.2.2.1)) : Int) - ((sz_TableS (a.2.2.2.2.2.1)) : Int)
  case neg => rw [if_neg c6]; simp only [Option.bind_some]; rw [decide_eq_true (by omega), if_pos rfl, if_neg (by omega)]
  rw [if_pos c6]; simp only [Option.bind_some]
  rw [decide_eq_false (by omega), if_neg (by simp)]
  have q7 := szItemS_ok hk (a := a.2.2.2.2.2.2.2) (left := left - ((sz_Sheaf (a.1)) : Int) - ((sz_Int64S (a.2.1)) : Int) - ((sz_Graph (a.2.2.1)) : Int) - ((sz_Int64S (a.2.2.2.1)) : Int) - ((sz_Matrix (a.2.2.2.2.1)) : Int) - ((sz_TableS (a.2.2.2.2.2.1)) : Int) - ((sz_Filtration (a.2.2.2.2.2.2.1)) : Int)) (by omega) (by omega) h.2.2.2.2.2.2.2
  rw [q7]
  by_cases c7 : ((sz_ItemS (a.2.2.2.2.2.2.2)) : Int) ≤ left - ((sz_Sheaf (a.1)) : Int) - ((sz_Int64S (a.2.1)) : Int) - ((sz_Graph (a.2.2.1)) : Int) - ((sz_Int64S (a.2.2.2.1)) : Int) - ((sz_Matrix (a.2.2.2.2.1)) : Int) - ((sz_TableS (a.2.2.2.2.2.1)) : Int) - ((sz_Filtration (a.2.2.2.2.2.2.1)) : Int)
  case neg => rw [if_neg c7]; simp only [Option.bind_some]; rw [decide_eq_true (by omega), if_pos rfl, if_neg (by omega)]
  rw [if_pos c7]; simp only [Option.bind_some]
  rw [decide_eq_false (by omega), if_neg (by simp)]
  rw [if_pos (by omega)]; congr 1; omega
theorem spec_l00Same_eq {k : Nat} (hk : KK ≤ k) {a b : List Int} (h : sz_Int64S a ≤ 10000000000) : spec_l00Same k a b = some (decide (a = b)) := by
  have hle : a.length ≤ 10000000000 := Nat.le_trans (show a.length ≤ sz_Int64S a by unfold sz_Int64S; omega) h
  unfold spec_l00Same
  by_cases hl : a.length = b.length
  · rw [if_neg (by simp [hl])]
    refine loop_eq (L := fun n i => spec_l00Same_l0 k n a b i (some true)) a b hl ?_ ?_ (n := k) (by have := KK_def; omega)
    · intro n i x y hx hy hlt
      have hw := w_succ (i := i) (by omega)
      by_cases e : x = y <;> simp [spec_l00Same_l0, hlt, hx, hy, hw, e]
    · intro n
      simp [spec_l00Same_l0]
  · have h2 : a ≠ b := fun e => hl (by rw [e])
    have h3 : ¬ (a.length : Int) = b.length := by omega
    simp [h3, h2]

theorem spec_l05Same_eq {k : Nat} (hk : KK ≤ k) {a b : List (List Int)} (h : sz_Int64SS a ≤ 10000000000) : spec_l05Same k a b = some (decide (a = b)) := by
  have hle : a.length ≤ 10000000000 := Nat.le_trans (show a.length ≤ sz_Int64SS a by unfold sz_Int64SS; omega) h
  unfold spec_l05Same
  by_cases hl : a.length = b.length
  · rw [if_neg (by simp [hl])]
    refine loop_eq (L := fun n i => spec_l05Same_l0 k n a b i (some true)) a b hl ?_ ?_ (n := k) (by have := KK_def; omega)
    · intro n i x y hx hy hlt
      have hw := w_succ (i := i) (by omega)
      have hm := sumL_mem sz_Int64S (List.mem_of_getElem? hx)
      have hb : sz_Int64S x ≤ 10000000000 := by unfold sz_Int64SS at h; omega
      simp only [spec_l05Same_l0, hlt, decide_true, if_true, Int.natCast_nonneg, Int.toNat_natCast, hx, hy, Option.bind_some, hw, spec_l00Same_eq hk hb]
      by_cases e : x = y
      · rw [decide_eq_true e, if_pos e]; simp
      · rw [decide_eq_false e, if_neg e]; simp
    · intro n
      simp [spec_l05Same_l0]
  · have h2 : a ≠ b := fun e => hl (by rw [e])
    have h3 : ¬ (a.length : Int) = b.length := by omega
    simp [h3, h2]

theorem spec_l28Words_eq {k : Nat} (hk : KK ≤ k) {a b : List (List UInt8)} (h : sz_StringS a ≤ 10000000000) : spec_l28Words k a b = some (decide (a = b)) := by
  have hle : a.length ≤ 10000000000 := Nat.le_trans (show a.length ≤ sz_StringS a by unfold sz_StringS; omega) h
  unfold spec_l28Words
  by_cases hl : a.length = b.length
  · rw [if_neg (by simp [hl])]
    refine loop_eq (L := fun n i => spec_l28Words_l0 k n a b i (some true)) a b hl ?_ ?_ (n := k) (by have := KK_def; omega)
    · intro n i x y hx hy hlt
      have hw := w_succ (i := i) (by omega)
      by_cases e : x = y <;> simp [spec_l28Words_l0, hlt, hx, hy, hw, e]
    · intro n
      simp [spec_l28Words_l0]
  · have h2 : a ≠ b := fun e => hl (by rw [e])
    have h3 : ¬ (a.length : Int) = b.length := by omega
    simp [h3, h2]

theorem spec_l04SameRows_eq {k : Nat} (hk : KK ≤ k) {a b : List (List Int)} (h : sz_Int64SS a ≤ 10000000000) : spec_l04SameRows k a b = some (decide (a = b)) := by
  have hle : a.length ≤ 10000000000 := Nat.le_trans (show a.length ≤ sz_Int64SS a by unfold sz_Int64SS; omega) h
  unfold spec_l04SameRows
  by_cases hl : a.length = b.length
  · rw [if_neg (by simp [hl])]
    refine loop_eq (L := fun n i => spec_l04SameRows_l0 k n a b i (some true)) a b hl ?_ ?_ (n := k) (by have := KK_def; omega)
    · intro n i x y hx hy hlt
      have hw := w_succ (i := i) (by omega)
      have hm := sumL_mem sz_Int64S (List.mem_of_getElem? hx)
      have hb : sz_Int64S x ≤ 10000000000 := by unfold sz_Int64SS at h; omega
      simp only [spec_l04SameRows_l0, hlt, decide_true, if_true, Int.natCast_nonneg, Int.toNat_natCast, hx, hy, Option.bind_some, hw, spec_l00Same_eq hk hb]
      by_cases e : x = y
      · rw [decide_eq_true e, if_pos e]; simp
      · rw [decide_eq_false e, if_neg e]; simp
    · intro n
      simp [spec_l04SameRows_l0]
  · have h2 : a ≠ b := fun e => hl (by rw [e])
    have h3 : ¬ (a.length : Int) = b.length := by omega
    simp [h3, h2]

theorem slices_Equal_int64_eq {k : Nat} (hk : KK ≤ k) {a b : List Int} (h : sz_Int64S a ≤ 10000000000) : slices_Equal_int64 k a b = some (decide (a = b)) := by
  have hle : a.length ≤ 10000000000 := Nat.le_trans (show a.length ≤ sz_Int64S a by unfold sz_Int64S; omega) h
  unfold slices_Equal_int64
  by_cases hl : a.length = b.length
  · rw [if_neg (by simp [hl])]
    refine loop_eq (L := fun n i => slices_Equal_int64_l0 k n a b (a.length : Int) i (some true)) a b hl ?_ ?_ (n := k) (by have := KK_def; omega)
    · intro n i x y hx hy hlt
      have hw := w_succ (i := i) (by omega)
      by_cases e : x = y <;> simp [slices_Equal_int64_l0, hlt, hx, hy, hw, e]
    · intro n
      simp [slices_Equal_int64_l0]
  · have h2 : a ≠ b := fun e => hl (by rw [e])
    have h3 : ¬ (a.length : Int) = b.length := by omega
    simp [h3, h2]

theorem slices_Equal_string_eq {k : Nat} (hk : KK ≤ k) {a b : List (List UInt8)} (h : sz_StringS a ≤ 10000000000) : slices_Equal_string k a b = some (decide (a = b)) := by
  have hle : a.length ≤ 10000000000 := Nat.le_trans (show a.length ≤ sz_StringS a by unfold sz_StringS; omega) h
  unfold slices_Equal_string
  by_cases hl : a.length = b.length
  · rw [if_neg (by simp [hl])]
    refine loop_eq (L := fun n i => slices_Equal_string_l0 k n a b (a.length : Int) i (some true)) a b hl ?_ ?_ (n := k) (by have := KK_def; omega)
    · intro n i x y hx hy hlt
      have hw := w_succ (i := i) (by omega)
      by_cases e : x = y <;> simp [slices_Equal_string_l0, hlt, hx, hy, hw, e]
    · intro n
      simp [slices_Equal_string_l0]
  · have h2 : a ≠ b := fun e => hl (by rw [e])
    have h3 : ¬ (a.length : Int) = b.length := by omega
    simp [h3, h2]

theorem slices_Equal_impl_Edge_eq {k : Nat} (hk : KK ≤ k) {a b : List (Int × Int × Int)} (h : sz_EdgeS a ≤ 10000000000) : slices_Equal_impl_Edge k a b = some (decide (a = b)) := by
  have hle : a.length ≤ 10000000000 := Nat.le_trans (show a.length ≤ sz_EdgeS a by unfold sz_EdgeS; omega) h
  unfold slices_Equal_impl_Edge
  by_cases hl : a.length = b.length
  · rw [if_neg (by simp [hl])]
    refine loop_eq (L := fun n i => slices_Equal_impl_Edge_l0 k n a b (a.length : Int) i (some true)) a b hl ?_ ?_ (n := k) (by have := KK_def; omega)
    · intro n i x y hx hy hlt
      have hw := w_succ (i := i) (by omega)
      by_cases e : x = y <;> simp [slices_Equal_impl_Edge_l0, hlt, hx, hy, hw, e]
    · intro n
      simp [slices_Equal_impl_Edge_l0]
  · have h2 : a ≠ b := fun e => hl (by rw [e])
    have h3 : ¬ (a.length : Int) = b.length := by omega
    simp [h3, h2]

theorem areSame0_eq {k : Nat} (hk : KK ≤ k) {a b : List (List Int)} (h : sz_Int64SS a ≤ 10000000000) : slices_EqualFunc_int64__slices_Equal_int64 k a b () = some (decide (a = b)) := by
  have hle : a.length ≤ 10000000000 := Nat.le_trans (show a.length ≤ sz_Int64SS a by unfold sz_Int64SS; omega) h
  unfold slices_EqualFunc_int64__slices_Equal_int64
  by_cases hl : a.length = b.length
  · rw [if_neg (by simp [hl])]
    refine loop_eq (L := fun n i => slices_EqualFunc_int64__slices_Equal_int64_l0 k n b () a (a.length : Int) i (some true)) a b hl ?_ ?_ (n := k) (by have := KK_def; omega)
    · intro n i x y hx hy hlt
      have hw := w_succ (i := i) (by omega)
      have hm := sumL_mem sz_Int64S (List.mem_of_getElem? hx)
      have hb : sz_Int64S x ≤ 10000000000 := by unfold sz_Int64SS at h; omega
      simp only [slices_EqualFunc_int64__slices_Equal_int64_l0, hlt, decide_true, if_true, Int.natCast_nonneg, Int.toNat_natCast, hx, hy, Option.bind_some, hw, slices_Equal_int64_eq hk hb]
      by_cases e : x = y
      · rw [decide_eq_true e, if_pos e]; simp
      · rw [decide_eq_false e, if_neg e]; simp
    · intro n
      simp [slices_EqualFunc_int64__slices_Equal_int64_l0]
  · have h2 : a ≠ b := fun e => hl (by rw [e])
    have h3 : ¬ (a.length : Int) = b.length := by omega
    simp [h3, h2]

theorem areSame_eq {k : Nat} (hk : KK ≤ k) {a b : List (List Int)} (h : sz_Int64SS a ≤ 10000000000) : impl_areSame k a b = some (decide (a = b)) := by
  unfold impl_areSame; rw [areSame0_eq hk h]; rfl
theorem implSameComplex_eq {k : Nat} (hk : KK ≤ k) {a b : List (List Int)} (h : sz_Int64SS a ≤ 10000000000) : impl_SameComplex k a b = some (decide (a = b)) := by
  unfold impl_SameComplex; rw [areSame_eq hk h]; rfl
theorem specSameComplex_eq {k : Nat} (hk : KK ≤ k) {a b : List (List Int)} (h : sz_Int64SS a ≤ 10000000000) : spec_SameComplex k a b = some (decide (a = b)) := by
  unfold spec_SameComplex; rw [spec_l05Same_eq hk h]; rfl
theorem spec_l03Same_eq {k : Nat} (hk : KK ≤ k) {a b : Int × Int × Int × List Int} (h : sz_Matrix a ≤ 10000000000) : spec_l03Same k a b = some (decide (a = b)) := by
  have hle : a.2.2.2.length ≤ 10000000000 := h
  obtain ⟨a1, a2, a3, a4⟩ := a
  obtain ⟨b1, b2, b3, b4⟩ := b
  simp only at hle
  unfold spec_l03Same
  simp only [Prod.mk.injEq]
  by_cases x1 : a1 = b1
  case neg => simp [x1]
  subst x1
  by_cases x2 : a2 = b2
  case neg => simp [x2]
  subst x2
  by_cases x3 : a3 = b3
  case neg => simp [x3]
  subst x3
  by_cases hl : a4.length = b4.length
  · have hl' : (a4.length : Int) = (b4.length : Int) := by omega
    simp only [decide_true, Bool.not_true, Bool.false_eq_true, if_false, hl', true_and]
    refine loop_eq (L := fun n i => spec_l03Same_l0 k n (a1, a2, a3, a4) (a1, a2, a3, b4) i (some true)) a4 b4 hl ?_ ?_ (n := k) (by have := KK_def; omega)
    · intro n i x y hx hy hlt
      have hw := w_succ (i := i) (by omega)
      by_cases e : x = y <;> simp [spec_l03Same_l0, hlt, hx, hy, hw, e]
    · intro n
      simp [spec_l03Same_l0]
  · have h2 : a4 ≠ b4 := fun e => hl (by rw [e])
    have h3 : ¬ (a4.length : Int) = b4.length := by omega
    simp [h3, h2]
theorem specSameMatrix_eq {k : Nat} (hk : KK ≤ k) {a b : Int × Int × Int × List Int} (h : sz_Matrix a ≤ 10000000000) : spec_SameMatrix k a b = some (decide (a = b)) := by
  unfold spec_SameMatrix; rw [spec_l03Same_eq hk h]; rfl
theorem implSameMatrix_eq {k : Nat} (hk : KK ≤ k) {a b : Int × Int × Int × List Int} (h : sz_Matrix a ≤ 10000000000) : impl_SameMatrix k a b = some (decide (a = b)) := by
  obtain ⟨a1, a2, a3, a4⟩ := a
  obtain ⟨b1, b2, b3, b4⟩ := b
  have c : sz_Int64S a4 ≤ 10000000000 := h
  unfold impl_SameMatrix
  simp only [slices_Equal_int64_eq hk c, Option.bind_some, Prod.mk.injEq]
  by_cases x1 : a1 = b1
  case neg => simp [x1]
  subst x1
  by_cases x2 : a2 = b2
  case neg => simp [x2]
  subst x2
  by_cases x3 : a3 = b3
  case neg => simp [x3]
  subst x3
  simp

theorem eqMats_eq {k : Nat} (hk : KK ≤ k) {a b : List (Int × Int × Int × List Int)} (h : sz_MatrixS a ≤ 10000000000) : slices_EqualFunc_impl_Matrix__impl_SameMatrix k a b () = some (decide (a = b)) := by
  have hle : a.length ≤ 10000000000 := Nat.le_trans (show a.length ≤ sz_MatrixS a by unfold sz_MatrixS; omega) h
  unfold slices_EqualFunc_impl_Matrix__impl_SameMatrix
  by_cases hl : a.length = b.length
  · rw [if_neg (by simp [hl])]
    refine loop_eq (L := fun n i => slices_EqualFunc_impl_Matrix__impl_SameMatrix_l0 k n b () a (a.length : Int) i (some true)) a b hl ?_ ?_ (n := k) (by have := KK_def; omega)
    · intro n i x y hx hy hlt
      have hw := w_succ (i := i) (by omega)
      have hm := sumL_mem sz_Matrix (List.mem_of_getElem? hx)
      have hb : sz_Matrix x ≤ 10000000000 := by unfold sz_MatrixS at h; omega
      simp only [slices_EqualFunc_impl_Matrix__impl_SameMatrix_l0, hlt, decide_true, if_true, Int.natCast_nonneg, Int.toNat_natCast, hx, hy, Option.bind_some, hw, implSameMatrix_eq hk hb]
      by_cases e : x = y
      · rw [decide_eq_true e, if_pos e]; simp
      · rw [decide_eq_false e, if_neg e]; simp
    · intro n
      simp [slices_EqualFunc_impl_Matrix__impl_SameMatrix_l0]
  · have h2 : a ≠ b := fun e => hl (by rw [e])
    have h3 : ¬ (a.length : Int) = b.length := by omega
    simp [h3, h2]

theorem implSameSheaf_eq {k : Nat} (hk : KK ≤ k) {a b : List (List Int) × Int × List Int × List (Int × Int × Int × List Int)} (h : sz_Sheaf a ≤ 10000000000) : impl_SameSheaf k a b = some (decide (a = b)) := by
  obtain ⟨a1, a2, a3, a4⟩ := a
  obtain ⟨b1, b2, b3, b4⟩ := b
  have hs : sz_Sheaf (a1, a2, a3, a4) = sz_Complex a1 + sz_Int64S a3 + sz_MatrixS a4 := rfl
  have c1 : sz_Int64SS a1 ≤ 10000000000 := Nat.le_trans (show sz_Int64SS a1 ≤ sz_Sheaf (a1, a2, a3, a4) from Nat.le_trans (Nat.le_of_eq rfl) (Nat.le_trans (Nat.le_add_right _ _) (Nat.le_add_right _ _))) h
  unfold impl_SameSheaf
  simp only [implSameComplex_eq hk c1, slices_Equal_int64_eq hk (show sz_Int64S a3 ≤ 10000000000 by omega), eqMats_eq hk (show sz_MatrixS a4 ≤ 10000000000 by omega), Option.bind_some, Prod.mk.injEq]
  by_cases x1 : a1 = b1
  case neg => simp [x1]
  subst x1
  by_cases x2 : a2 = b2
  case neg => simp [x2]
  subst x2
  by_cases x3 : a3 = b3
  case neg => simp [x3]
  subst x3
  simp
theorem spec_l09Same_eq {k : Nat} (hk : KK ≤ k) {a b : List (List Int) × Int × List Int × List (Int × Int × Int × List Int)} (h : sz_Sheaf a ≤ 10000000000) : spec_l09Same k a b = some (decide (a = b)) := by
  obtain ⟨a1, a2, a3, a4⟩ := a
  obtain ⟨b1, b2, b3, b4⟩ := b
  have hs : sz_Sheaf (a1, a2, a3, a4) = sz_Complex a1 + sz_Int64S a3 + sz_MatrixS a4 := rfl
  have c1 : sz_Int64SS a1 ≤ 10000000000 := Nat.le_trans (show sz_Int64SS a1 ≤ sz_Sheaf (a1, a2, a3, a4) from Nat.le_trans (Nat.le_of_eq rfl) (Nat.le_trans (Nat.le_add_right _ _) (Nat.le_add_right _ _))) h
  have c4 : sz_MatrixS a4 ≤ 10000000000 := by omega
  have hle : a4.length ≤ 10000000000 := Nat.le_trans (show a4.length ≤ sz_MatrixS a4 by unfold sz_MatrixS; omega) c4
  unfold spec_l09Same
  simp only [spec_l05Same_eq hk c1, spec_l00Same_eq hk (show sz_Int64S a3 ≤ 10000000000 by omega), Option.bind_some, Prod.mk.injEq]
  by_cases x1 : a1 = b1
  case neg => simp [x1]
  subst x1
  by_cases x2 : a2 = b2
  case neg => simp [x2]
  subst x2
  by_cases x3 : a3 = b3
  case neg => simp [x3]
  subst x3
  by_cases hl : a4.length = b4.length
  · have hl' : (a4.length : Int) = (b4.length : Int) := by omega
    simp only [decide_true, Bool.not_true, Bool.false_eq_true, if_false, hl', true_and]
    refine loop_eq (L := fun n i => spec_l09Same_l0 k n (a1, a2, a3, a4) (a1, a2, a3, b4) i (some true)) a4 b4 hl ?_ ?_ (n := k) (by have := KK_def; omega)
    · intro n i x y hx hy hlt
      have hw := w_succ (i := i) (by omega)
      have hm := sumL_mem sz_Matrix (List.mem_of_getElem? hx)
      have hb : sz_Matrix x ≤ 10000000000 := by unfold sz_MatrixS at c4; omega
      simp only [spec_l09Same_l0, hlt, decide_true, if_true, Int.natCast_nonneg, Int.toNat_natCast, hx, hy, Option.bind_some, hw, spec_l03Same_eq hk hb]
      by_cases e : x = y
      · rw [decide_eq_true e, if_pos e]; simp
      · rw [decide_eq_false e, if_neg e]; simp
    · intro n
      simp [spec_l09Same_l0]
  · have h2 : a4 ≠ b4 := fun e => hl (by rw [e])
    have h3 : ¬ (a4.length : Int) = b4.length := by omega
    simp [h3, h2]
theorem specSameSheaf_eq {k : Nat} (hk : KK ≤ k) {a b : List (List Int) × Int × List Int × List (Int × Int × Int × List Int)} (h : sz_Sheaf a ≤ 10000000000) : spec_SameSheaf k a b = some (decide (a = b)) := by
  unfold spec_SameSheaf; rw [spec_l09Same_eq hk h]; rfl
theorem implSameGraph_eq {k : Nat} (hk : KK ≤ k) {a b : Int × List (Int × Int × Int)} (h : sz_Graph a ≤ 10000000000) : impl_SameGraph k a b = some (decide (a = b)) := by
  obtain ⟨a1, a2⟩ := a
  obtain ⟨b1, b2⟩ := b
  have c : sz_EdgeS a2 ≤ 10000000000 := h
  unfold impl_SameGraph
  simp only [slices_Equal_impl_Edge_eq hk c, Option.bind_some, Prod.mk.injEq]
  by_cases x1 : a1 = b1
  case neg => simp [x1]
  subst x1
  simp
theorem specSameGraph_eq {k : Nat} (hk : KK ≤ k) {a b : Int × List (Int × Int × Int)} (h : sz_Graph a ≤ 10000000000) : spec_SameGraph k a b = some (decide (a = b)) := by
  have hle : a.2.length ≤ 10000000000 := h
  obtain ⟨a1, a2⟩ := a
  obtain ⟨b1, b2⟩ := b
  simp only at hle
  unfold spec_SameGraph
  simp only [Prod.mk.injEq]
  by_cases x1 : a1 = b1
  case neg => simp [x1]
  subst x1
  by_cases hl : a2.length = b2.length
  · have hl' : (a2.length : Int) = (b2.length : Int) := by omega
    simp only [decide_true, Bool.not_true, Bool.false_eq_true, if_false, hl', true_and]
    refine loop_eq (L := fun n i => spec_SameGraph_l0 k n i (a1, a2) (a1, b2) (some true)) a2 b2 hl ?_ ?_ (n := k) (by have := KK_def; omega)
    · intro n i x y hx hy hlt
      have hw := w_succ (i := i) (by omega)
      by_cases e : x = y <;> simp [spec_SameGraph_l0, hlt, hx, hy, hw, e]
    · intro n
      simp [spec_SameGraph_l0]
  · have h2 : a2 ≠ b2 := fun e => hl (by rw [e])
    have h3 : ¬ (a2.length : Int) = b2.length := by omega
    simp [h3, h2]
theorem implSameTable_eq {k : Nat} (hk : KK ≤ k) {a b : List Int × List (List Int)} (h : sz_Table a ≤ 10000000000) : impl_SameTable k a b = some (decide (a = b)) := by
  obtain ⟨a1, a2⟩ := a
  obtain ⟨b1, b2⟩ := b
  have hs : sz_Table (a1, a2) = sz_Int64S a1 + sz_Int64SS a2 := rfl
  unfold impl_SameTable
  simp only [slices_Equal_int64_eq hk (show sz_Int64S a1 ≤ 10000000000 by omega), areSame_eq hk (show sz_Int64SS a2 ≤ 10000000000 by omega), Option.bind_some, Prod.mk.injEq]
  by_cases x1 : a1 = b1
  case neg => simp [x1]
  subst x1
  simp
theorem spec_l20Same_eq {k : Nat} (hk : KK ≤ k) {a b : List Int × List (List Int)} (h : sz_Table a ≤ 10000000000) : spec_l20Same k a b = some (decide (a = b)) := by
  obtain ⟨a1, a2⟩ := a
  obtain ⟨b1, b2⟩ := b
  have hs : sz_Table (a1, a2) = sz_Int64S a1 + sz_Int64SS a2 := rfl
  unfold spec_l20Same
  simp only [spec_l00Same_eq hk (show sz_Int64S a1 ≤ 10000000000 by omega), spec_l04SameRows_eq hk (show sz_Int64SS a2 ≤ 10000000000 by omega), Option.bind_some, Prod.mk.injEq]
  by_cases x1 : a1 = b1
  case neg => simp [x1]
  subst x1
  simp

theorem eqTables_eq {k : Nat} (hk : KK ≤ k) {a b : List (List Int × List (List Int))} (h : sz_TableS a ≤ 10000000000) : slices_EqualFunc_impl_Table__impl_SameTable k a b () = some (decide (a = b)) := by
  have hle : a.length ≤ 10000000000 := Nat.le_trans (show a.length ≤ sz_TableS a by unfold sz_TableS; omega) h
  unfold slices_EqualFunc_impl_Table__impl_SameTable
  by_cases hl : a.length = b.length
  · rw [if_neg (by simp [hl])]
    refine loop_eq (L := fun n i => slices_EqualFunc_impl_Table__impl_SameTable_l0 k n b () a (a.length : Int) i (some true)) a b hl ?_ ?_ (n := k) (by have := KK_def; omega)
    · intro n i x y hx hy hlt
      have hw := w_succ (i := i) (by omega)
      have hm := sumL_mem sz_Table (List.mem_of_getElem? hx)
      have hb : sz_Table x ≤ 10000000000 := by unfold sz_TableS at h; omega
      simp only [slices_EqualFunc_impl_Table__impl_SameTable_l0, hlt, decide_true, if_true, Int.natCast_nonneg, Int.toNat_natCast, hx, hy, Option.bind_some, hw, implSameTable_eq hk hb]
      by_cases e : x = y
      · rw [decide_eq_true e, if_pos e]; simp
      · rw [decide_eq_false e, if_neg e]; simp
    · intro n
      simp [slices_EqualFunc_impl_Table__impl_SameTable_l0]
  · have h2 : a ≠ b := fun e => hl (by rw [e])
    have h3 : ¬ (a.length : Int) = b.length := by omega
    simp [h3, h2]

theorem sameItem_eq {k : Nat} (hk : KK ≤ k) {a b : List UInt8 × List (List UInt8) × Int × Int} (h : sz_Item a ≤ 10000000000) : impl_SameItems_1 k a b = some (decide (a = b)) := by
  obtain ⟨a1, a2, a3, a4⟩ := a
  obtain ⟨b1, b2, b3, b4⟩ := b
  have hs : sz_Item (a1, a2, a3, a4) = List.length a1 + sz_StringS a2 := rfl
  unfold impl_SameItems_1
  simp only [slices_Equal_string_eq hk (show sz_StringS a2 ≤ 10000000000 by omega), Option.bind_some, Prod.mk.injEq]
  by_cases x1 : a1 = b1
  case neg => simp [x1]
  subst x1
  by_cases x2 : a2 = b2
  case neg => simp [x2]
  subst x2
  by_cases x3 : a3 = b3
  case neg => simp [x3]
  subst x3
  simp

theorem sameItems0_eq {k : Nat} (hk : KK ≤ k) {a b : List (List UInt8 × List (List UInt8) × Int × Int)} (h : sz_ItemS a ≤ 10000000000) : slices_EqualFunc_impl_Item__impl_SameItems_1 k a b () = some (decide (a = b)) := by
  have hle : a.length ≤ 10000000000 := Nat.le_trans (show a.length ≤ sz_ItemS a by unfold sz_ItemS; omega) h
  unfold slices_EqualFunc_impl_Item__impl_SameItems_1
  by_cases hl : a.length = b.length
  · rw [if_neg (by simp [hl])]
    refine loop_eq (L := fun n i => slices_EqualFunc_impl_Item__impl_SameItems_1_l0 k n b () a (a.length : Int) i (some true)) a b hl ?_ ?_ (n := k) (by have := KK_def; omega)
    · intro n i x y hx hy hlt
      have hw := w_succ (i := i) (by omega)
      have hm := sumL_mem sz_Item (List.mem_of_getElem? hx)
      have hb : sz_Item x ≤ 10000000000 := by unfold sz_ItemS at h; omega
      simp only [slices_EqualFunc_impl_Item__impl_SameItems_1_l0, hlt, decide_true, if_true, Int.natCast_nonneg, Int.toNat_natCast, hx, hy, Option.bind_some, hw, sameItem_eq hk hb]
      by_cases e : x = y
      · rw [decide_eq_true e, if_pos e]; simp
      · rw [decide_eq_false e, if_neg e]; simp
    · intro n
      simp [slices_EqualFunc_impl_Item__impl_SameItems_1_l0]
  · have h2 : a ≠ b := fun e => hl (by rw [e])
    have h3 : ¬ (a.length : Int) = b.length := by omega
    simp [h3, h2]

theorem implSameItems_eq {k : Nat} (hk : KK ≤ k) {a b : List (List UInt8 × List (List UInt8) × Int × Int)} (h : sz_ItemS a ≤ 10000000000) : impl_SameItems k a b = some (decide (a = b)) := by
  unfold impl_SameItems; rw [sameItems0_eq hk h]; rfl
theorem specSameItems_eq {k : Nat} (hk : KK ≤ k) {a b : List (List UInt8 × List (List UInt8) × Int × Int)} (h : sz_ItemS a ≤ 10000000000) : spec_SameItems k a b = some (decide (a = b)) := by
  have hle : a.length ≤ 10000000000 := Nat.le_trans (show a.length ≤ sz_ItemS a by unfold sz_ItemS; omega) h
  unfold spec_SameItems
  by_cases hl : a.length = b.length
  · rw [if_neg (by simp [hl])]
    refine loop_eq (L := fun n i => spec_SameItems_l0 k n a b i (some true)) a b hl ?_ ?_ (n := k) (by have := KK_def; omega)
    · intro n i x y hx hy hlt
      have hw := w_succ (i := i) (by omega)
      have hm := sumL_mem sz_Item (List.mem_of_getElem? hx)
      have hb : sz_Item x ≤ 10000000000 := by unfold sz_ItemS at h; omega
      have hs : sz_Item x = List.length x.1 + sz_StringS x.2.1 := rfl
      simp only [spec_SameItems_l0, hlt, decide_true, if_true, Int.natCast_nonneg, Int.toNat_natCast, hx, hy, Option.bind_some, hw, spec_l28Words_eq hk (show sz_StringS x.2.1 ≤ 10000000000 by omega)]
      obtain ⟨a1, a2, a3, a4⟩ := x
      obtain ⟨b1, b2, b3, b4⟩ := y
      simp only [Prod.mk.injEq]
      by_cases x1 : a1 = b1
      case neg => simp [x1]
      by_cases x3 : a3 = b3
      case neg => simp [x1, x3]
      by_cases x4 : a4 = b4
      case neg => simp [x1, x3, x4]
      by_cases x2 : a2 = b2
      case neg => simp [x1, x2, x3, x4]
      simp [x1, x2, x3, x4]
    · intro n
      simp [spec_SameItems_l0]
  · have h2 : a ≠ b := fun e => hl (by rw [e])
    have h3 : ¬ (a.length : Int) = b.length := by omega
    simp [h3, h2]
abbrev DeskT := (List (List Int) × Int × List Int × List (Int × Int × Int × List Int)) × List Int × (Int × List (Int × Int × Int)) × List Int × (Int × Int × Int × List Int) × (List (List Int × List (List Int))) × (List (List Int) × List Int) × List (List UInt8 × List (List UInt8) × Int × Int)
theorem szDesk_parts {a : DeskT} (h : sz_Desk a ≤ 10000000000) : sz_Sheaf a.1 ≤ 10000000000 ∧ sz_Int64S a.2.1 ≤ 10000000000 ∧ sz_Graph a.2.2.1 ≤ 10000000000 ∧ sz_Int64S a.2.2.2.1 ≤ 10000000000 ∧ sz_Matrix a.2.2.2.2.1 ≤ 10000000000 ∧ sz_TableS a.2.2.2.2.2.1 ≤ 10000000000 ∧ sz_Int64SS a.2.2.2.2.2.2.1.1 ≤ 10000000000 ∧ sz_Int64S a.2.2.2.2.2.2.1.2 ≤ 10000000000 ∧ sz_ItemS a.2.2.2.2.2.2.2 ≤ 10000000000 := by
  have hs : sz_Desk a = sz_Sheaf a.1 + sz_Int64S a.2.1 + sz_Graph a.2.2.1 + sz_Int64S a.2.2.2.1 + sz_Matrix a.2.2.2.2.1 + sz_TableS a.2.2.2.2.2.1 + sz_Filtration a.2.2.2.2.2.2.1 + sz_ItemS a.2.2.2.2.2.2.2 := rfl
  have hf : sz_Filtration a.2.2.2.2.2.2.1 = sz_Complex a.2.2.2.2.2.2.1.1 + sz_Int64S a.2.2.2.2.2.2.1.2 := rfl
  have hc : sz_Complex a.2.2.2.2.2.2.1.1 = sz_Int64SS a.2.2.2.2.2.2.1.1 := rfl
  omega
theorem desk_iff (a b : DeskT) : a = b ↔ a.1 = b.1 ∧ a.2.1 = b.2.1 ∧ a.2.2.1 = b.2.2.1 ∧ a.2.2.2.1 = b.2.2.2.1 ∧ a.2.2.2.2.1 = b.2.2.2.2.1 ∧ a.2.2.2.2.2.1 = b.2.2.2.2.2.1 ∧ a.2.2.2.2.2.2.1.1 = b.2.2.2.2.2.2.1.1 ∧ a.2.2.2.2.2.2.1.2 = b.2.2.2.2.2.2.1.2 ∧ a.2.2.2.2.2.2.2 = b.2.2.2.2.2.2.2 := by
  obtain ⟨a1, a2, a3, a4, a5, a6, ⟨a7, a8⟩, a9⟩ := a
  obtain ⟨b1, b2, b3, b4, b5, b6, ⟨b7, b8⟩, b9⟩ := b
  simp only [Prod.mk.injEq]
  constructor
  · rintro ⟨h1, h2, h3, h4, h5, h6, ⟨h7, h8⟩, h9⟩; exact ⟨h1, h2, h3, h4, h5, h6, h7, h8, h9⟩
  · rintro ⟨h1, h2, h3, h4, h5, h6, h7, h8, h9⟩; exact ⟨h1, h2, h3, h4, h5, h6, ⟨h7, h8⟩, h9⟩
theorem desk_dec (a b : DeskT) : decide (a = b) = (decide (a.1 = b.1) && (decide (a.2.1 = b.2.1) && (decide (a.2.2.1 = b.2.2.1) && (decide (a.2.2.2.1 = b.2.2.2.1) && (decide (a.2.2.2.2.1 = b.2.2.2.2.1) && (decide (a.2.2.2.2.2.1 = b.2.2.2.2.2.1) && (decide (a.2.2.2.2.2.2.1.1 = b.2.2.2.2.2.2.1.1) && (decide (a.2.2.2.2.2.2.1.2 = b.2.2.2.2.2.2.1.2) && decide (a.2.2.2.2.2.2.2 = b.2.2.2.2.2.2.2))))))))) := by
  rw [Bool.eq_iff_iff]
  simp only [Bool.and_eq_true, decide_eq_true_eq]
  exact desk_iff a b
theorem implSameDesk_eq {k : Nat} (hk : KK ≤ k) {a b : DeskT} (h : sz_Desk a ≤ 10000000000) : impl_SameDesk k a b = some (decide (a = b)) := by
  obtain ⟨c1, c2, c3, c4, c5, c6, c7, c8, c9⟩ := szDesk_parts h
  rw [desk_dec a b]
  unfold impl_SameDesk
  simp only [implSameSheaf_eq hk c1, slices_Equal_int64_eq hk c2, implSameGraph_eq hk c3, slices_Equal_int64_eq hk c4, implSameMatrix_eq hk c5, eqTables_eq hk c6, implSameComplex_eq hk c7, slices_Equal_int64_eq hk c8, implSameItems_eq hk c9, Option.bind_some]
  by_cases x1 : a.1 = b.1
  case neg => simp [x1]
  by_cases x2 : a.2.1 = b.2.1
  case neg => simp [x1, x2]
  by_cases x3 : a.2.2.1 = b.2.2.1
  case neg => simp [x1, x2, x3]
  by_cases x4 : a.2.2.2.1 = b.2.2.2.1
  case neg => simp [x1, x2, x3, x4]
  by_cases x7 : a.2.2.2.2.2.2.1.1 = b.2.2.2.2.2.2.1.1
  case neg => simp [x1, x2, x3, x4, x7]
  by_cases x5 : a.2.2.2.2.1 = b.2.2.2.2.1
  case neg => simp [x1, x2, x3, x4, x5, x7]
  by_cases x6 : a.2.2.2.2.2.1 = b.2.2.2.2.2.1
  case neg => simp [x1, x2, x3, x4, x5, x6, x7]
  by_cases x8 : a.2.2.2.2.2.2.1.2 = b.2.2.2.2.2.2.1.2
  case neg => simp [x1, x2, x3, x4, x5, x6, x7, x8]
  simp [x1, x2, x3, x4, x5, x6, x7, x8]
theorem specSameDesk_eq {k : Nat} (hk : KK ≤ k) {a b : DeskT} (h : sz_Desk a ≤ 10000000000) : spec_SameDesk k a b = some (decide (a = b)) := by
  obtain ⟨c1, c2, c3, c4, c5, c6, c7, c8, c9⟩ := szDesk_parts h
  rw [desk_dec a b]
  unfold spec_SameDesk
  simp only [specSameSheaf_eq hk c1, spec_l00Same_eq hk c2, specSameGraph_eq hk c3, spec_l00Same_eq hk c4, specSameMatrix_eq hk c5, specSameComplex_eq hk c7, spec_l00Same_eq hk c8, specSameItems_eq hk c9, Option.bind_some]
  by_cases x1 : a.1 = b.1
  case neg => simp [x1]
  by_cases x2 : a.2.1 = b.2.1
  case neg => simp [x1, x2]
  by_cases x3 : a.2.2.1 = b.2.2.1
  case neg => simp [x1, x2, x3]
  by_cases x4 : a.2.2.2.1 = b.2.2.2.1
  case neg => simp [x1, x2, x3, x4]
  by_cases x5 : a.2.2.2.2.1 = b.2.2.2.2.1
  case neg => simp [x1, x2, x3, x4, x5]
  by_cases x9 : a.2.2.2.2.2.2.2 = b.2.2.2.2.2.2.2
  case neg => simp [x1, x2, x3, x4, x5, x9]
  by_cases x7 : a.2.2.2.2.2.2.1.1 = b.2.2.2.2.2.2.1.1
  case neg => simp [x1, x2, x3, x4, x5, x7, x9]
  by_cases x8 : a.2.2.2.2.2.2.1.2 = b.2.2.2.2.2.2.1.2
  case neg => simp [x1, x2, x3, x4, x5, x7, x8, x9]
  simp only [x1, x2, x3, x4, x5, x7, x8, x9, decide_true, Bool.not_true, Bool.false_eq_true, if_false, Bool.true_and, Bool.and_true]
  have hle : a.2.2.2.2.2.1.length ≤ 10000000000 := by
    have : a.2.2.2.2.2.1.length ≤ sz_TableS a.2.2.2.2.2.1 := by unfold sz_TableS; omega
    omega
  by_cases hl : a.2.2.2.2.2.1.length = b.2.2.2.2.2.1.length
  · rw [if_neg (by simp [hl])]
    refine loop_eq (L := fun n i => spec_SameDesk_l0 k n i a b (some true)) a.2.2.2.2.2.1 b.2.2.2.2.2.1 hl ?_ ?_ (n := k) (by have := KK_def; omega)
    · intro n i x y hx hy hlt
      have hw := w_succ (i := i) (by omega)
      have hm := sumL_mem sz_Table (List.mem_of_getElem? hx)
      have hb : sz_Table x ≤ 10000000000 := by unfold sz_TableS at c6; omega
      simp only [spec_SameDesk_l0, hlt, decide_true, if_true, Int.natCast_nonneg, Int.toNat_natCast, hx, hy, Option.bind_some, hw, spec_l20Same_eq hk hb]
      by_cases e : x = y
      · rw [decide_eq_true e, if_pos e]; simp
      · rw [decide_eq_false e, if_neg e]; simp
    · intro n
      simp [spec_SameDesk_l0]
  · have h2 : a.2.2.2.2.2.1 ≠ b.2.2.2.2.2.1 := fun e => hl (by rw [e])
    have h3 : ¬ (a.2.2.2.2.2.1.length : Int) = b.2.2.2.2.2.1.length := by omega
    simp [h3, h2]
theorem toInt64S_ok {k : Nat} (hk : KK ≤ k) {a : List Int} (h : sz_Int64S a ≤ 10000000000) : laws_toInt64S k a = some a := by
  have hl : a.length ≤ 10000000000 := Nat.le_trans (show a.length ≤ sz_Int64S a by unfold sz_Int64S; omega) h
  unfold laws_toInt64S
  have hL := LIM_def
  rw [if_pos ⟨by omega, Int.le_refl _, by omega⟩]
  refine loop_copy (L := fun n i q => laws_toInt64S_l0 k n a i q fun q_5 => some q_5) (e := fun q => some q) a _ (by simp) ?_ ?_ (n := k) (by have := KK_def; omega)
  · intro n i x q hx hlt hq
    have hw := w_succ (i := i) (by omega)
    have hi : i < q.length := by omega
    simp [laws_toInt64S_l0, hlt, hx, hw, hi]
  · intro n q
    simp [laws_toInt64S_l0]
theorem toInt64SS_ok {k : Nat} (hk : KK ≤ k) {a : List (List Int)} (h : sz_Int64SS a ≤ 10000000000) : laws_toInt64SS k a = some a := by
  have hl : a.length ≤ 10000000000 := Nat.le_trans (show a.length ≤ sz_Int64SS a by unfold sz_Int64SS; omega) h
  unfold laws_toInt64SS
  have hL := LIM_def
  rw [if_pos ⟨by omega, Int.le_refl _, by omega⟩]
  refine loop_copy (L := fun n i q => laws_toInt64SS_l0 k n a i q fun q_5 => some q_5) (e := fun q => some q) a _ (by simp) ?_ ?_ (n := k) (by have := KK_def; omega)
  · intro n i x q hx hlt hq
    have hw := w_succ (i := i) (by omega)
    have hi : i < q.length := by omega
    have hm := sumL_mem sz_Int64S (List.mem_of_getElem? hx)
    have hb : sz_Int64S x ≤ 10000000000 := by unfold sz_Int64SS at h; omega
    simp [laws_toInt64SS_l0, toInt64S_ok hk hb, hlt, hx, hw, hi]
  · intro n q
    simp [laws_toInt64SS_l0]
theorem toComplex_ok {k : Nat} (hk : KK ≤ k) {a : List (List Int)} (h : sz_Complex a ≤ 10000000000) : laws_toComplex k a = some a := by
  have b0 : (sz_Int64SS a) ≤ 10000000000 := by unfold sz_Complex at h; omega
  unfold laws_toComplex
  simp only [toInt64SS_ok hk b0, Option.bind_some] <;> rfl
theorem toMatrix_ok {k : Nat} (hk : KK ≤ k) {a : Int × Int × Int × List Int} (h : sz_Matrix a ≤ 10000000000) : laws_toMatrix k a = some a := by
  have b3 : (sz_Int64S (a.2.2.2)) ≤ 10000000000 := by unfold sz_Matrix at h; omega
  unfold laws_toMatrix
  simp only [toInt64S_ok hk b3, Option.bind_some] <;> rfl
theorem toMatrixS_ok {k : Nat} (hk : KK ≤ k) {a : List (Int × Int × Int × List Int)} (h : sz_MatrixS a ≤ 10000000000) : laws_toMatrixS k a = some a := by
  have hl : a.length ≤ 10000000000 := Nat.le_trans (show a.length ≤ sz_MatrixS a by unfold sz_MatrixS; omega) h
  unfold laws_toMatrixS
  have hL := LIM_def
  rw [if_pos ⟨by omega, Int.le_refl _, by omega⟩]
  refine loop_copy (L := fun n i q => laws_toMatrixS_l0 k n a i q fun q_5 => some q_5) (e := fun q => some q) a _ (by simp) ?_ ?_ (n := k) (by have := KK_def; omega)
  · intro n i x q hx hlt hq
    have hw := w_succ (i := i) (by omega)
    have hi : i < q.length := by omega
    have hm := sumL_mem sz_Matrix (List.mem_of_getElem? hx)
    have hb : sz_Matrix x ≤ 10000000000 := by unfold sz_MatrixS at h; omega
    simp [laws_toMatrixS_l0, toMatrix_ok hk hb, hlt, hx, hw, hi]
  · intro n q
    simp [laws_toMatrixS_l0]
theorem toSheaf_ok {k : Nat} (hk : KK ≤ k) {a : List (List Int) × Int × List Int × (List (Int × Int × Int × List Int))} (h : sz_Sheaf a ≤ 10000000000) : laws_toSheaf k a = some a := by
  have b0 : (sz_Complex (a.1)) ≤ 10000000000 := by unfold sz_Sheaf at h; omega
  have b2 : (sz_Int64S (a.2.2.1)) ≤ 10000000000 := by unfold sz_Sheaf at h; omega
  have b3 : (sz_MatrixS (a.2.2.2)) ≤ 10000000000 := by unfold sz_Sheaf at h; omega
  unfold laws_toSheaf
  simp only [toComplex_ok hk b0, toInt64S_ok hk b2, toMatrixS_ok hk b3, Option.bind_some] <;> rfl
theorem toEdge_ok {a : Int × Int × Int}  : laws_toEdge a = some a := by
  unfold laws_toEdge
  rfl
theorem toEdgeS_ok {k : Nat} (hk : KK ≤ k) {a : List (Int × Int × Int)} (h : sz_EdgeS a ≤ 10000000000) : laws_toEdgeS k a = some a := by
  have hl : a.length ≤ 10000000000 := Nat.le_trans (show a.length ≤ sz_EdgeS a by unfold sz_EdgeS; omega) h
  unfold laws_toEdgeS
  have hL := LIM_def
  rw [if_pos ⟨by omega, Int.le_refl _, by omega⟩]
  refine loop_copy (L := fun n i q => laws_toEdgeS_l0 k n a i q fun q_5 => some q_5) (e := fun q => some q) a _ (by simp) ?_ ?_ (n := k) (by have := KK_def; omega)
  · intro n i x q hx hlt hq
    have hw := w_succ (i := i) (by omega)
    have hi : i < q.length := by omega
    simp [laws_toEdgeS_l0, toEdge_ok, hlt, hx, hw, hi]
  · intro n q
    simp [laws_toEdgeS_l0]
theorem toGraph_ok {k : Nat} (hk : KK ≤ k) {a : Int × (List (Int × Int × Int))} (h : sz_Graph a ≤ 10000000000) : laws_toGraph k a = some a := by
  have b1 : (sz_EdgeS (a.2)) ≤ 10000000000 := by unfold sz_Graph at h; omega
  unfold laws_toGraph
  simp only [toEdgeS_ok hk b1, Option.bind_some] <;> rfl
theorem toTable_ok {k : Nat} (hk : KK ≤ k) {a : List Int × List (List Int)} (h : sz_Table a ≤ 10000000000) : laws_toTable k a = some a := by
  have b0 : (sz_Int64S (a.1)) ≤ 10000000000 := by unfold sz_Table at h; omega
  have b1 : (sz_Int64SS (a.2)) ≤ 10000000000 := by unfold sz_Table at h; omega
  unfold laws_toTable
  simp only [toInt64S_ok hk b0, toInt64SS_ok hk b1, Option.bind_some] <;> rfl
theorem toTableS_ok {k : Nat} (hk : KK ≤ k) {a : List (List Int × List (List Int))} (h : sz_TableS a ≤ 10000000000) : laws_toTableS k a = some a := by
  have hl : a.length ≤ 10000000000 := Nat.le_trans (show a.length ≤ sz_TableS a by unfold sz_TableS; omega) h
  unfold laws_toTableS
  have hL := LIM_def
  rw [if_pos ⟨by omega, Int.le_refl _, by omega⟩]
  refine loop_copy (L := fun n i q => laws_toTableS_l0 k n a i q fun q_5 => some q_5) (e := fun q => some q) a _ (by simp) ?_ ?_ (n := k) (by have := KK_def; omega)
  · intro n i x q hx hlt hq
    have hw := w_succ (i := i) (by omega)
    have hi : i < q.length := by omega
    have hm := sumL_mem sz_Table (List.mem_of_getElem? hx)
    have hb : sz_Table x ≤ 10000000000 := by unfold sz_TableS at h; omega
    simp [laws_toTableS_l0, toTable_ok hk hb, hlt, hx, hw, hi]
  · intro n q
    simp [laws_toTableS_l0]
theorem toFiltration_ok {k : Nat} (hk : KK ≤ k) {a : List (List Int) × List Int} (h : sz_Filtration a ≤ 10000000000) : laws_toFiltration k a = some a := by
  have b0 : (sz_Complex (a.1)) ≤ 10000000000 := by unfold sz_Filtration at h; omega
  have b1 : (sz_Int64S (a.2)) ≤ 10000000000 := by unfold sz_Filtration at h; omega
  unfold laws_toFiltration
  simp only [toComplex_ok hk b0, toInt64S_ok hk b1, Option.bind_some] <;> rfl
theorem toStringS_ok {k : Nat} (hk : KK ≤ k) {a : List (List UInt8)} (h : sz_StringS a ≤ 10000000000) : laws_toStringS k a = some a := by
  have hl : a.length ≤ 10000000000 := Nat.le_trans (show a.length ≤ sz_StringS a by unfold sz_StringS; omega) h
  unfold laws_toStringS
  have hL := LIM_def
  rw [if_pos ⟨by omega, Int.le_refl _, by omega⟩]
  refine loop_copy (L := fun n i q => laws_toStringS_l0 k n a i q fun q_5 => some q_5) (e := fun q => some q) a _ (by simp) ?_ ?_ (n := k) (by have := KK_def; omega)
  · intro n i x q hx hlt hq
    have hw := w_succ (i := i) (by omega)
    have hi : i < q.length := by omega
    simp [laws_toStringS_l0, hlt, hx, hw, hi]
  · intro n q
    simp [laws_toStringS_l0]
theorem toItem_ok {k : Nat} (hk : KK ≤ k) {a : List UInt8 × List (List UInt8) × Int × Int} (h : sz_Item a ≤ 10000000000) : laws_toItem k a = some a := by
  have b1 : (sz_StringS (a.2.1)) ≤ 10000000000 := by unfold sz_Item at h; omega
  unfold laws_toItem
  simp only [toStringS_ok hk b1, Option.bind_some] <;> rfl
theorem toItemS_ok {k : Nat} (hk : KK ≤ k) {a : List (List UInt8 × List (List UInt8) × Int × Int)} (h : sz_ItemS a ≤ 10000000000) : laws_toItemS k a = some a := by
  have hl : a.length ≤ 10000000000 := Nat.le_trans (show a.length ≤ sz_ItemS a by unfold sz_ItemS; omega) h
  unfold laws_toItemS
  have hL := LIM_def
  rw [if_pos ⟨by omega, Int.le_refl _, by omega⟩]
  refine loop_copy (L := fun n i q => laws_toItemS_l0 k n a i q fun q_5 => some q_5) (e := fun q => some q) a _ (by simp) ?_ ?_ (n := k) (by have := KK_def; omega)
  · intro n i x q hx hlt hq
    have hw := w_succ (i := i) (by omega)
    have hi : i < q.length := by omega
    have hm := sumL_mem sz_Item (List.mem_of_getElem? hx)
    have hb : sz_Item x ≤ 10000000000 := by unfold sz_ItemS at h; omega
    simp [laws_toItemS_l0, toItem_ok hk hb, hlt, hx, hw, hi]
  · intro n q
    simp [laws_toItemS_l0]
theorem toDesk_ok {k : Nat} (hk : KK ≤ k) {a : (List (List Int) × Int × List Int × (List (Int × Int × Int × List Int))) × List Int × (Int × (List (Int × Int × Int))) × List Int × (Int × Int × Int × List Int) × (List (List Int × List (List Int))) × (List (List Int) × List Int) × (List (List UInt8 × List (List UInt8) × Int × Int))} (h : sz_Desk a ≤ 10000000000) : laws_toDesk k a = some a := by
  have b0 : (sz_Sheaf (a.1)) ≤ 10000000000 := by unfold sz_Desk at h; omega
  have b1 : (sz_Int64S (a.2.1)) ≤ 10000000000 := by unfold sz_Desk at h; omega
  have b2 : (sz_Graph (a.2.2.1)) ≤ 10000000000 := by unfold sz_Desk at h; omega
  have b3 : (sz_Int64S (a.2.2.2.1)) ≤ 10000000000 := by unfold sz_Desk at h; omega
  have b4 : (sz_Matrix (a.2.2.2.2.1)) ≤ 10000000000 := by unfold sz_Desk at h; omega
  have b5 : (sz_TableS (a.2.2.2.2.2.1)) ≤ 10000000000 := by unfold sz_Desk at h; omega
  have b6 : (sz_Filtration (a.2.2.2.2.2.2.1)) ≤ 10000000000 := by unfold sz_Desk at h; omega
  have b7 : (sz_ItemS (a.2.2.2.2.2.2.2)) ≤ 10000000000 := by unfold sz_Desk at h; omega
  unfold laws_toDesk
  simp only [toSheaf_ok hk b0, toInt64S_ok hk b1, toGraph_ok hk b2, toInt64S_ok hk b3, toMatrix_ok hk b4, toTableS_ok hk b5, toFiltration_ok hk b6, toItemS_ok hk b7, Option.bind_some] <;> rfl
theorem eqInt64S_ok {k : Nat} (hk : KK ≤ k) {a b : List Int} (h : sz_Int64S a ≤ 10000000000) : laws_eqInt64S k a b = some (decide (a = b)) := by
  have hle : a.length ≤ 10000000000 := Nat.le_trans (show a.length ≤ sz_Int64S a by unfold sz_Int64S; omega) h
  unfold laws_eqInt64S
  by_cases hl : a.length = b.length
  · rw [if_neg (by simp [hl])]
    refine loop_eq (L := fun n i => laws_eqInt64S_l0 k n a b i (some true)) a b hl ?_ ?_ (n := k) (by have := KK_def; omega)
    · intro n i x y hx hy hlt
      have hw := w_succ (i := i) (by omega)
      by_cases e : x = y <;> simp [laws_eqInt64S_l0, hlt, hx, hy, hw, e]
    · intro n
      simp [laws_eqInt64S_l0]
  · have h2 : a ≠ b := fun e => hl (by rw [e])
    have h3 : ¬ (a.length : Int) = b.length := by omega
    simp [h3, h2]
theorem eqInt64SS_ok {k : Nat} (hk : KK ≤ k) {a b : List (List Int)} (h : sz_Int64SS a ≤ 10000000000) : laws_eqInt64SS k a b = some (decide (a = b)) := by
  have hle : a.length ≤ 10000000000 := Nat.le_trans (show a.length ≤ sz_Int64SS a by unfold sz_Int64SS; omega) h
  unfold laws_eqInt64SS
  by_cases hl : a.length = b.length
  · rw [if_neg (by simp [hl])]
    refine loop_eq (L := fun n i => laws_eqInt64SS_l0 k n a b i (some true)) a b hl ?_ ?_ (n := k) (by have := KK_def; omega)
    · intro n i x y hx hy hlt
      have hw := w_succ (i := i) (by omega)
      have hm := sumL_mem sz_Int64S (List.mem_of_getElem? hx)
      have hb : sz_Int64S x ≤ 10000000000 := by unfold sz_Int64SS at h; omega
      simp only [laws_eqInt64SS_l0, hlt, decide_true, if_true, Int.natCast_nonneg, Int.toNat_natCast, hx, hy, Option.bind_some, hw, eqInt64S_ok hk hb]
      by_cases e : x = y
      · rw [decide_eq_true e, if_pos e]; simp
      · rw [decide_eq_false e, if_neg e]; simp
    · intro n
      simp [laws_eqInt64SS_l0]
  · have h2 : a ≠ b := fun e => hl (by rw [e])
    have h3 : ¬ (a.length : Int) = b.length := by omega
    simp [h3, h2]
theorem eqComplex_ok {k : Nat} (hk : KK ≤ k) {a b : List (List Int)} (h : sz_Complex a ≤ 10000000000) : laws_eqComplex k a b = some (decide (a = b)) := by
  have c0 : (sz_Int64SS a) ≤ 10000000000 := by unfold sz_Complex at h; omega
  unfold laws_eqComplex
  simp only [eqInt64SS_ok hk c0, Option.bind_some, Prod.mk.injEq]
  by_cases x0 : a = b
  case neg => simp [x0]
  subst x0
  simp
theorem eqMatrix_ok {k : Nat} (hk : KK ≤ k) {a b : Int × Int × Int × List Int} (h : sz_Matrix a ≤ 10000000000) : laws_eqMatrix k a b = some (decide (a = b)) := by
  obtain ⟨a0, a1, a2, a3⟩ := a
  obtain ⟨b0, b1, b2, b3⟩ := b
  have c3 : (sz_Int64S a3) ≤ 10000000000 := by unfold sz_Matrix at h; simp only at h; omega
  unfold laws_eqMatrix
  simp only [eqInt64S_ok hk c3, Option.bind_some, Prod.mk.injEq]
  by_cases x0 : a0 = b0
  case neg => simp [x0]
  subst x0
  by_cases x1 : a1 = b1
  case neg => simp [x1]
  subst x1
  by_cases x2 : a2 = b2
  case neg => simp [x2]
  subst x2
  by_cases x3 : a3 = b3
  case neg => simp [x3]
  subst x3
  simp
theorem eqMatrixS_ok {k : Nat} (hk : KK ≤ k) {a b : List (Int × Int × Int × List Int)} (h : sz_MatrixS a ≤ 10000000000) : laws_eqMatrixS k a b = some (decide (a = b)) := by
  have hle : a.length ≤ 10000000000 := Nat.le_trans (show a.length ≤ sz_MatrixS a by unfold sz_MatrixS; omega) h
  unfold laws_eqMatrixS
  by_cases hl : a.length = b.length
  · rw [if_neg (by simp [hl])]
    refine loop_eq (L := fun n i => laws_eqMatrixS_l0 k n a b i (some true)) a b hl ?_ ?_ (n := k) (by have := KK_def; omega)
    · intro n i x y hx hy hlt
      have hw := w_succ (i := i) (by omega)
      have hm := sumL_mem sz_Matrix (List.mem_of_getElem? hx)
      have hb : sz_Matrix x ≤ 10000000000 := by unfold sz_MatrixS at h; omega
      simp only [laws_eqMatrixS_l0, hlt, decide_true, if_true, Int.natCast_nonneg, Int.toNat_natCast, hx, hy, Option.bind_some, hw, eqMatrix_ok hk hb]
      by_cases e : x = y
      · rw [decide_eq_true e, if_pos e]; simp
      · rw [decide_eq_false e, if_neg e]; simp
    · intro n
      simp [laws_eqMatrixS_l0]
  · have h2 : a ≠ b := fun e => hl (by rw [e])
    have h3 : ¬ (a.length : Int) = b.length := by omega
    simp [h3, h2]
theorem eqSheaf_ok {k : Nat} (hk : KK ≤ k) {a b : List (List Int) × Int × List Int × (List (Int × Int × Int × List Int))} (h : sz_Sheaf a ≤ 10000000000) : laws_eqSheaf k a b = some (decide (a = b)) := by
  obtain ⟨a0, a1, a2, a3⟩ := a
  obtain ⟨b0, b1, b2, b3⟩ := b
  have c0 : (sz_Complex a0) ≤ 10000000000 := by unfold sz_Sheaf at h; simp only at h; omega
  have c2 : (sz_Int64S a2) ≤ 10000000000 := by unfold sz_Sheaf at h; simp only at h; omega
  have c3 : (sz_MatrixS a3) ≤ 10000000000 := by unfold sz_Sheaf at h; simp only at h; omega
  unfold laws_eqSheaf
  simp only [eqComplex_ok hk c0, eqInt64S_ok hk c2, eqMatrixS_ok hk c3, Option.bind_some, Prod.mk.injEq]
  by_cases x0 : a0 = b0
  case neg => simp [x0]
  subst x0
  by_cases x1 : a1 = b1
  case neg => simp [x1]
  subst x1
  by_cases x2 : a2 = b2
  case neg => simp [x2]
  subst x2
  by_cases x3 : a3 = b3
  case neg => simp [x3]
  subst x3
  simp
theorem eqEdge_ok {a b : Int × Int × Int}  : laws_eqEdge a b = some (decide (a = b)) := by
  obtain ⟨a0, a1, a2⟩ := a
  obtain ⟨b0, b1, b2⟩ := b
  unfold laws_eqEdge
  simp only [Prod.mk.injEq]
  by_cases x0 : a0 = b0
  case neg => simp [x0]
  subst x0
  by_cases x1 : a1 = b1
  case neg => simp [x1]
  subst x1
  by_cases x2 : a2 = b2
  case neg => simp [x2]
  subst x2
  simp
theorem eqEdgeS_ok {k : Nat} (hk : KK ≤ k) {a b : List (Int × Int × Int)} (h : sz_EdgeS a ≤ 10000000000) : laws_eqEdgeS k a b = some (decide (a = b)) := by
  have hle : a.length ≤ 10000000000 := Nat.le_trans (show a.length ≤ sz_EdgeS a by unfold sz_EdgeS; omega) h
  unfold laws_eqEdgeS
  by_cases hl : a.length = b.length
  · rw [if_neg (by simp [hl])]
    refine loop_eq (L := fun n i => laws_eqEdgeS_l0 k n a b i (some true)) a b hl ?_ ?_ (n := k) (by have := KK_def; omega)
    · intro n i x y hx hy hlt
      have hw := w_succ (i := i) (by omega)
      simp only [laws_eqEdgeS_l0, hlt, decide_true, if_true, Int.natCast_nonneg, Int.toNat_natCast, hx, hy, Option.bind_some, hw, eqEdge_ok]
      by_cases e : x = y
      · rw [decide_eq_true e, if_pos e]; simp
      · rw [decide_eq_false e, if_neg e]; simp
    · intro n
      simp [laws_eqEdgeS_l0]
  · have h2 : a ≠ b := fun e => hl (by rw [e])
    have h3 : ¬ (a.length : Int) = b.length := by omega
    simp [h3, h2]
theorem eqGraph_ok {k : Nat} (hk : KK ≤ k) {a b : Int × (List (Int × Int × Int))} (h : sz_Graph a ≤ 10000000000) : laws_eqGraph k a b = some (decide (a = b)) := by
  obtain ⟨a0, a1⟩ := a
  obtain ⟨b0, b1⟩ := b
  have c1 : (sz_EdgeS a1) ≤ 10000000000 := by unfold sz_Graph at h; simp only at h; omega
  unfold laws_eqGraph
  simp only [eqEdgeS_ok hk c1, Option.bind_some, Prod.mk.injEq]
  by_cases x0 : a0 = b0
  case neg => simp [x0]
  subst x0
  by_cases x1 : a1 = b1
  case neg => simp [x1]
  subst x1
  simp
theorem eqTable_ok {k : Nat} (hk : KK ≤ k) {a b : List Int × List (List Int)} (h : sz_Table a ≤ 10000000000) : laws_eqTable k a b = some (decide (a = b)) := by
  obtain ⟨a0, a1⟩ := a
  obtain ⟨b0, b1⟩ := b
  have c0 : (sz_Int64S a0) ≤ 10000000000 := by unfold sz_Table at h; simp only at h; omega
  have c1 : (sz_Int64SS a1) ≤ 10000000000 := by unfold sz_Table at h; simp only at h; omega
  unfold laws_eqTable
  simp only [eqInt64S_ok hk c0, eqInt64SS_ok hk c1, Option.bind_some, Prod.mk.injEq]
  by_cases x0 : a0 = b0
  case neg => simp [x0]
  subst x0
  by_cases x1 : a1 = b1
  case neg => simp [x1]
  subst x1
  simp
theorem eqTableS_ok {k : Nat} (hk : KK ≤ k) {a b : List (List Int × List (List Int))} (h : sz_TableS a ≤ 10000000000) : laws_eqTableS k a b = some (decide (a = b)) := by
  have hle : a.length ≤ 10000000000 := Nat.le_trans (show a.length ≤ sz_TableS a by unfold sz_TableS; omega) h
  unfold laws_eqTableS
  by_cases hl : a.length = b.length
  · rw [if_neg (by simp [hl])]
    refine loop_eq (L := fun n i => laws_eqTableS_l0 k n a b i (some true)) a b hl ?_ ?_ (n := k) (by have := KK_def; omega)
    · intro n i x y hx hy hlt
      have hw := w_succ (i := i) (by omega)
      have hm := sumL_mem sz_Table (List.mem_of_getElem? hx)
      have hb : sz_Table x ≤ 10000000000 := by unfold sz_TableS at h; omega
      simp only [laws_eqTableS_l0, hlt, decide_true, if_true, Int.natCast_nonneg, Int.toNat_natCast, hx, hy, Option.bind_some, hw, eqTable_ok hk hb]
      by_cases e : x = y
      · rw [decide_eq_true e, if_pos e]; simp
      · rw [decide_eq_false e, if_neg e]; simp
    · intro n
      simp [laws_eqTableS_l0]
  · have h2 : a ≠ b := fun e => hl (by rw [e])
    have h3 : ¬ (a.length : Int) = b.length := by omega
    simp [h3, h2]
theorem eqFiltration_ok {k : Nat} (hk : KK ≤ k) {a b : List (List Int) × List Int} (h : sz_Filtration a ≤ 10000000000) : laws_eqFiltration k a b = some (decide (a = b)) := by
  obtain ⟨a0, a1⟩ := a
  obtain ⟨b0, b1⟩ := b
  have c0 : (sz_Complex a0) ≤ 10000000000 := by unfold sz_Filtration at h; simp only at h; omega
  have c1 : (sz_Int64S a1) ≤ 10000000000 := by unfold sz_Filtration at h; simp only at h; omega
  unfold laws_eqFiltration
  simp only [eqComplex_ok hk c0, eqInt64S_ok hk c1, Option.bind_some, Prod.mk.injEq]
  by_cases x0 : a0 = b0
  case neg => simp [x0]
  subst x0
  by_cases x1 : a1 = b1
  case neg => simp [x1]
  subst x1
  simp
theorem eqStringS_ok {k : Nat} (hk : KK ≤ k) {a b : List (List UInt8)} (h : sz_StringS a ≤ 10000000000) : laws_eqStringS k a b = some (decide (a = b)) := by
  have hle : a.length ≤ 10000000000 := Nat.le_trans (show a.length ≤ sz_StringS a by unfold sz_StringS; omega) h
  unfold laws_eqStringS
  by_cases hl : a.length = b.length
  · rw [if_neg (by simp [hl])]
    refine loop_eq (L := fun n i => laws_eqStringS_l0 k n a b i (some true)) a b hl ?_ ?_ (n := k) (by have := KK_def; omega)
    · intro n i x y hx hy hlt
      have hw := w_succ (i := i) (by omega)
      by_cases e : x = y <;> simp [laws_eqStringS_l0, hlt, hx, hy, hw, e]
    · intro n
      simp [laws_eqStringS_l0]
  · have h2 : a ≠ b := fun e => hl (by rw [e])
    have h3 : ¬ (a.length : Int) = b.length := by omega
    simp [h3, h2]
theorem eqItem_ok {k : Nat} (hk : KK ≤ k) {a b : List UInt8 × List (List UInt8) × Int × Int} (h : sz_Item a ≤ 10000000000) : laws_eqItem k a b = some (decide (a = b)) := by
  obtain ⟨a0, a1, a2, a3⟩ := a
  obtain ⟨b0, b1, b2, b3⟩ := b
  have c1 : (sz_StringS a1) ≤ 10000000000 := by unfold sz_Item at h; simp only at h; omega
  unfold laws_eqItem
  simp only [eqStringS_ok hk c1, Option.bind_some, Prod.mk.injEq]
  by_cases x0 : a0 = b0
  case neg => simp [x0]
  subst x0
  by_cases x1 : a1 = b1
  case neg => simp [x1]
  subst x1
  by_cases x2 : a2 = b2
  case neg => simp [x2]
  subst x2
  by_cases x3 : a3 = b3
  case neg => simp [x3]
  subst x3
  simp
theorem eqItemS_ok {k : Nat} (hk : KK ≤ k) {a b : List (List UInt8 × List (List UInt8) × Int × Int)} (h : sz_ItemS a ≤ 10000000000) : laws_eqItemS k a b = some (decide (a = b)) := by
  have hle : a.length ≤ 10000000000 := Nat.le_trans (show a.length ≤ sz_ItemS a by unfold sz_ItemS; omega) h
  unfold laws_eqItemS
  by_cases hl : a.length = b.length
  · rw [if_neg (by simp [hl])]
    refine loop_eq (L := fun n i => laws_eqItemS_l0 k n a b i (some true)) a b hl ?_ ?_ (n := k) (by have := KK_def; omega)
    · intro n i x y hx hy hlt
      have hw := w_succ (i := i) (by omega)
      have hm := sumL_mem sz_Item (List.mem_of_getElem? hx)
      have hb : sz_Item x ≤ 10000000000 := by unfold sz_ItemS at h; omega
      simp only [laws_eqItemS_l0, hlt, decide_true, if_true, Int.natCast_nonneg, Int.toNat_natCast, hx, hy, Option.bind_some, hw, eqItem_ok hk hb]
      by_cases e : x = y
      · rw [decide_eq_true e, if_pos e]; simp
      · rw [decide_eq_false e, if_neg e]; simp
    · intro n
      simp [laws_eqItemS_l0]
  · have h2 : a ≠ b := fun e => hl (by rw [e])
    have h3 : ¬ (a.length : Int) = b.length := by omega
    simp [h3, h2]
theorem eqDesk_ok {k : Nat} (hk : KK ≤ k) {a b : (List (List Int) × Int × List Int × (List (Int × Int × Int × List Int))) × List Int × (Int × (List (Int × Int × Int))) × List Int × (Int × Int × Int × List Int) × (List (List Int × List (List Int))) × (List (List Int) × List Int) × (List (List UInt8 × List (List UInt8) × Int × Int))} (h : sz_Desk a ≤ 10000000000) : laws_eqDesk k a b = some (decide (a = b)) := by
  obtain ⟨a0, a1, a2, a3, a4, a5, a6, a7⟩ := a
  obtain ⟨b0, b1, b2, b3, b4, b5, b6, b7⟩ := b
  have c0 : (sz_Sheaf a0) ≤ 10000000000 := by unfold sz_Desk at h; simp only at h; omega
  have c1 : (sz_Int64S a1) ≤ 10000000000 := by unfold sz_Desk at h; simp only at h; omega
  have c2 : (sz_Graph a2) ≤ 10000000000 := by unfold sz_Desk at h; simp only at h; omega
  have c3 : (sz_Int64S a3) ≤ 10000000000 := by unfold sz_Desk at h; simp only at h; omega
  have c4 : (sz_Matrix a4) ≤ 10000000000 := by unfold sz_Desk at h; simp only at h; omega
  have c5 : (sz_TableS a5) ≤ 10000000000 := by unfold sz_Desk at h; simp only at h; omega
  have c6 : (sz_Filtration a6) ≤ 10000000000 := by unfold sz_Desk at h; simp only at h; omega
  have c7 : (sz_ItemS a7) ≤ 10000000000 := by unfold sz_Desk at h; simp only at h; omega
  unfold laws_eqDesk
  simp only [eqSheaf_ok hk c0, eqInt64S_ok hk c1, eqGraph_ok hk c2, eqInt64S_ok hk c3, eqMatrix_ok hk c4, eqTableS_ok hk c5, eqFiltration_ok hk c6, eqItemS_ok hk c7, Option.bind_some, Prod.mk.injEq]
  by_cases x0 : a0 = b0
  case neg => simp [x0]
  subst x0
  by_cases x1 : a1 = b1
  case neg => simp [x1]
  subst x1
  by_cases x2 : a2 = b2
  case neg => simp [x2]
  subst x2
  by_cases x3 : a3 = b3
  case neg => simp [x3]
  subst x3
  by_cases x4 : a4 = b4
  case neg => simp [x4]
  subst x4
  by_cases x5 : a5 = b5
  case neg => simp [x5]
  subst x5
  by_cases x6 : a6 = b6
  case neg => simp [x6]
  subst x6
  by_cases x7 : a7 = b7
  case neg => simp [x7]
  subst x7
  simp
theorem eta_Desk (x : (List (List Int) × Int × List Int × (List (Int × Int × Int × List Int))) × List Int × (Int × (List (Int × Int × Int))) × List Int × (Int × Int × Int × List Int) × (List (List Int × List (List Int))) × (List (List Int) × List Int) × (List (List UInt8 × List (List UInt8) × Int × Int))) : ((x.1.1, (x.1.2.1, (x.1.2.2.1, x.1.2.2.2))), (x.2.1, ((x.2.2.1.1, x.2.2.1.2), (x.2.2.2.1, ((x.2.2.2.2.1.1, (x.2.2.2.2.1.2.1, (x.2.2.2.2.1.2.2.1, x.2.2.2.2.1.2.2.2))), (x.2.2.2.2.2.1, ((x.2.2.2.2.2.2.1.1, x.2.2.2.2.2.2.1.2), x.2.2.2.2.2.2.2))))))) = x := rfl
theorem pure_FnExactSameDesk {e0 e1 e2 e3 e4 e5 e6 e7 e8 e9 e10 e11 e12 e13 e14 e15 e16 e17 f0 f1 f2 f3 f4 f5 f6 f7 f8 f9 f10 f11 f12 f13 f14 f15 f16 f17 : TypeId} (a0 a1 : DeskT) (h0 : InR (.st (.pr (.st (.pr (.st (.sl e0 (.sl e1 (.int .i64)))) (.pr (.int .i64) (.pr (.sl e2 (.int .i64)) (.sl e3 (.st (.pr (.int .i64) (.pr (.int .i64) (.pr (.int .i64) (.sl e4 (.int .i64))))))))))) (.pr (.sl e5 (.int .i64)) (.pr (.st (.pr (.int .i64) (.sl e6 (.st (.pr (.int .i64) (.pr (.int .i64) (.int .i64))))))) (.pr (.sl e7 (.int .i64)) (.pr (.st (.pr (.int .i64) (.pr (.int .i64) (.pr (.int .i64) (.sl e8 (.int .i64)))))) (.pr (.sl e9 (.st (.pr (.sl e10 (.int .i64)) (.sl e11 (.sl e12 (.int .i64)))))) (.pr (.st (.pr (.st (.sl e13 (.sl e14 (.int .i64)))) (.sl e15 (.int .i64)))) (.sl e16 (.st (.pr .str (.pr (.sl e17 .str) (.pr (.int .i64) (.int .i64)))))))))))))) a0) (h1 : InR (.st (.pr (.st (.pr (.st (.sl f0 (.sl f1 (.int .i64)))) (.pr (.int .i64) (.pr (.sl f2 (.int .i64)) (.sl f3 (.st (.pr (.int .i64) (.pr (.int .i64) (.pr (.int .i64) (.sl f4 (.int .i64))))))))))) (.pr (.sl f5 (.int .i64)) (.pr (.st (.pr (.int .i64) (.sl f6 (.st (.pr (.int .i64) (.pr (.int .i64) (.int .i64))))))) (.pr (.sl f7 (.int .i64)) (.pr (.st (.pr (.int .i64) (.pr (.int .i64) (.pr (.int .i64) (.sl f8 (.int .i64)))))) (.pr (.sl f9 (.st (.pr (.sl f10 (.int .i64)) (.sl f11 (.sl f12 (.int .i64)))))) (.pr (.st (.pr (.st (.sl f13 (.sl f14 (.int .i64)))) (.sl f15 (.int .i64)))) (.sl f16 (.st (.pr .str (.pr (.sl f17 .str) (.pr (.int .i64) (.int .i64)))))))))))))) a1) : ∃ k : Nat, laws_FnExactSameDesk k a0 a1 = some true := by
  have hk := Nat.le_refl KK
  refine ⟨KK, ?_⟩
  have q0 := szDesk_ok hk (a := a0) (left := 1048576) (by omega) (by omega) h0
  unfold laws_FnExactSameDesk
  rw [q0]
  by_cases c0 : (sz_Desk a0 : Int) ≤ 1048576
  case neg => rw [if_neg c0]; simp only [Option.bind_some]; rw [decide_eq_true (by omega), if_pos rfl]
  rw [if_pos c0]; simp only [Option.bind_some]
  rw [decide_eq_false (by omega), if_neg (by simp)]
  have q1 := szDesk_ok hk (a := a1) (left := 1048576 - (sz_Desk a0 : Int)) (by omega) (by omega) h1
  rw [q1]
  by_cases c1 : (sz_Desk a1 : Int) ≤ 1048576 - (sz_Desk a0 : Int)
  case neg => rw [if_neg c1]; simp only [Option.bind_some]; rw [decide_eq_true (by omega), if_pos rfl]
  rw [if_pos c1]; simp only [Option.bind_some]
  rw [decide_eq_false (by omega), if_neg (by simp)]
  have b0 : sz_Desk a0 ≤ 10000000000 := by omega
  have b1 : sz_Desk a1 ≤ 10000000000 := by omega
  simp only [toDesk_ok hk b0, toDesk_ok hk b1, Option.bind_some, eta_Desk, specSameDesk_eq hk b0, implSameDesk_eq hk b0, eqDesk_ok hk b0, eqDesk_ok hk b1, beq_self_eq_true, decide_true, Bool.not_true, Bool.false_eq_true, if_false]
end Go.Proofs.Ytackggcodaolaaa.Ev
