/- Functions of the program, as plain ones. No conditions. -/
import Derived.Test.YtmmkijdfiaaobaaGreatG5
import Derived.KernelRfl
set_option linter.unusedVariables false
set_option maxRecDepth 100000
namespace Go.Proofs.YtmmkijdfiaaobaaGreat.Ev
open Go.RowKit
noncomputable section
/- 111 loop.example/g01005/impl.facesOf -/
def impl_facesOf_l0 (k : Nat) : Nat → (List Int) → Int → Int → (List (List Int)) → ((List (List Int)) → Option (List (List Int))) → Option (List (List Int))
  | 0, _, _, _, _, _ => none
  | n + 1, s0, x6, x7, q_1, e_0 => (if (decide (x7 < x6)) = true then (if (decide (1 < (List.length s0 : Int))) = true then (if 0 ≤ (0 : Int) ∧ (0 : Int) ≤ x7 ∧ x7 ≤ s0.length then (if 0 ≤ (w_i64 (x7 + 1)) ∧ (w_i64 (x7 + 1)) ≤ (s0.length : Int) ∧ (s0.length : Int) ≤ s0.length then (slices_Concat_int64 k [(s0.take x7.toNat), ((s0.drop ((w_i64 (x7 + 1)).toNat)).take (s0.length - (w_i64 (x7 + 1)).toNat))]).bind fun r_2 => (if (q_1.length + [r_2].length) * 24 ≤ LIM then impl_facesOf_l0 k n s0 x6 (w_i64 (x7 + 1)) (q_1 ++ [r_2]) e_0 else none) else none) else none) else impl_facesOf_l0 k n s0 x6 (w_i64 (x7 + 1)) q_1 e_0) else e_0 q_1)
def impl_facesOf (k : Nat) (s0 : List Int) : Option (List (List Int)) := impl_facesOf_l0 k k s0 (List.length s0 : Int) 0 [] (fun q_3 => some q_3)
def impl_facesOf_l0_h : Head := ⟨[(0, (.val (.sl 2 (.int .i64)))), (3, (.ref 64000000 [])), (6, (.val (.int .i64))), (7, (.val (.int .i64)))], [(64000000, 25, (.sl 2 (.int .i64)), false)], []⟩
def impl_facesOf_l0_x0 : Head := ⟨[(3, (.ref 64000000 []))], [(64000000, 25, (.sl 2 (.int .i64)), false)], []⟩
def impl_facesOf_l0_F (k n : Nat) (x : impl_facesOf_l0_h.T) (kx : Nat → St → Option (List (List Int))) : Option (List (List Int)) := impl_facesOf_l0 k n x.1.1 x.1.2.2.1 x.1.2.2.2.1 x.2.1.1 (fun (q_3 : List (List Int)) => kx 0 (impl_facesOf_l0_x0.fill (((), ()), (q_3, ()), ())))
def impl_facesOf_O (k : Nat) : Oracles (List (List Int)) := ⟨fun n => bif Nat.beq n 3 then some (fun σ kx => impl_facesOf_l0_h.get σ fun x => impl_facesOf_l0_F k k x kx) else none, fun _ => none⟩
def fe_impl_facesOf (k : Nat) : FE := ⟨(.sl 2 (.int .i64)), 1, (.sl 25 (.sl 2 (.int .i64))), fun x => impl_facesOf k x⟩
theorem impl_facesOf_l0_ok (k : Nat) : LoopOK (mkEnv ti [(149, fe_slices_Concat_int64 k)] (lk []) pins0 pinB0) (impl_facesOf_O k) (rdC (mkEnv ti [(149, fe_slices_Concat_int64 k)] (lk []) pins0 pinB0) [.tmp 2] (.sl 25 (.sl 2 (.int .i64)))) ((loopsOf (codeOf Tryz.f111)).getD 0 .skip) (fun σ kx => impl_facesOf_l0_h.get σ fun x => impl_facesOf_l0_F k k x kx) := by
  refine ⟨impl_facesOf_l0_h, [(0, impl_facesOf_l0_x0)], fun n x kx => impl_facesOf_l0_F k n x kx, k, by kernel_rfl, by kernel_rfl, fun x kx => by kernel_rfl, ?_, fun σ kx => rfl⟩
  rintro n ⟨⟨s0, ⟨⟩, x6, x7, ⟨⟩⟩, ⟨q_1, ⟨⟩⟩, ⟨⟩⟩ kx
  kernel_rfl
theorem ok_impl_facesOf (k : Nat) : FnOK Tryz.prog 111 (fe_impl_facesOf k) := by
  refine closed_ok (tab := [(149, fe_slices_Concat_int64 k)]) (l := []) ti_ok ti_ht mix (List.forall_mem_cons.2 ⟨ok_slices_Concat_int64 k, (List.forall_mem_nil _)⟩) (List.forall_mem_nil _) ⟨⟨Tryz.f111, (codeOf Tryz.f111), [.tmp 2], (impl_facesOf_O k), by kernel_rfl, by kernel_rfl, by kernel_rfl, by kernel_rfl, rfl, by decide, ⟨by kernel_rfl, ?_, ?_⟩, ?_⟩⟩
  · refine loops_of (n := 1) (by kernel_rfl) fun i hi => ?_
    match i, hi with
    | 0, _ => exact loop_of (by kernel_rfl) (impl_facesOf_l0_ok k)
    | n + 1, hi => omega
  · exact no_cuts (by kernel_rfl)
  · rintro s0
    kernel_rfl
/- 150 slices.BinarySearchFunc[[][]int64,[]int64,[]int64] -/
def slices_BinarySearchFunc_int64__impl_compareSimplices_l0 (k : Nat) : Nat → (List (List Int)) → (List Int) → Unit → Int → Int → Int → ((List (List Int)) → (List Int) → Unit → Int → Int → Option (Int × Bool)) → Option (Int × Bool)
  | 0, _, _, _, _, _, _, _ => none
  | n + 1, x0, target1, cmp2, n8, i9, j10, e_0 => (if (decide (i9 < j10)) = true then (if 0 ≤ (w_i64 ((Int.fdiv (w_u64 ((w_i64 (i9 + j10)))) (2 ^ 1)))) then (x0[(w_i64 ((Int.fdiv (w_u64 ((w_i64 (i9 + j10)))) (2 ^ 1)))).toNat]?).bind fun y_1 => (impl_compareSimplices k y_1 target1).bind fun r_2 => (if (decide (r_2 < 0)) = true then slices_BinarySearchFunc_int64__impl_compareSimplices_l0 k n x0 target1 cmp2 n8 (w_i64 ((w_i64 ((Int.fdiv (w_u64 ((w_i64 (i9 + j10)))) (2 ^ 1)))) + 1)) j10 e_0 else slices_BinarySearchFunc_int64__impl_compareSimplices_l0 k n x0 target1 cmp2 n8 i9 (w_i64 ((Int.fdiv (w_u64 ((w_i64 (i9 + j10)))) (2 ^ 1)))) e_0) else none) else e_0 x0 target1 cmp2 n8 i9)
def slices_BinarySearchFunc_int64__impl_compareSimplices (k : Nat) (x0 : List (List Int)) (target1 : List Int) (cmp2 : Unit) : Option (Int × Bool) := slices_BinarySearchFunc_int64__impl_compareSimplices_l0 k k x0 target1 cmp2 (List.length x0 : Int) 0 (List.length x0 : Int) (fun x_3 target_4 cmp_5 n_6 i_7 => (if (decide (i_7 < n_6)) = true then (if 0 ≤ i_7 then (x_3[i_7.toNat]?).bind fun y_8 => (impl_compareSimplices k y_8 target_4).bind fun r_9 => some (i_7, (decide (r_9 = 0))) else none) else some (i_7, false)))
def slices_BinarySearchFunc_int64__impl_compareSimplices_l0_h : Head := ⟨[(0, (.val (.sl 25 (.sl 2 (.int .i64))))), (1, (.val (.sl 2 (.int .i64)))), (2, (.val (.fn 109 .un))), (8, (.val (.int .i64))), (9, (.val (.int .i64))), (10, (.val (.int .i64)))], [], []⟩
def slices_BinarySearchFunc_int64__impl_compareSimplices_l0_x0 : Head := ⟨[(0, (.val (.sl 25 (.sl 2 (.int .i64))))), (1, (.val (.sl 2 (.int .i64)))), (2, (.val (.fn 109 .un))), (8, (.val (.int .i64))), (9, (.val (.int .i64)))], [], []⟩
def slices_BinarySearchFunc_int64__impl_compareSimplices_l0_F (k n : Nat) (x : slices_BinarySearchFunc_int64__impl_compareSimplices_l0_h.T) (kx : Nat → St → Option (Int × Bool)) : Option (Int × Bool) := slices_BinarySearchFunc_int64__impl_compareSimplices_l0 k n x.1.1 x.1.2.1 x.1.2.2.1 x.1.2.2.2.1 x.1.2.2.2.2.1 x.1.2.2.2.2.2.1 (fun (x0 : List (List Int)) (target1 : List Int) (cmp2 : Unit) (n8 : Int) (i9 : Int) => kx 0 (slices_BinarySearchFunc_int64__impl_compareSimplices_l0_x0.fill ((x0, target1, cmp2, n8, i9, ()), (), ())))
def slices_BinarySearchFunc_int64__impl_compareSimplices_O (k : Nat) : Oracles (Int × Bool) := ⟨fun n => bif Nat.beq n 3 then some (fun σ kx => slices_BinarySearchFunc_int64__impl_compareSimplices_l0_h.get σ fun x => slices_BinarySearchFunc_int64__impl_compareSimplices_l0_F k k x kx) else none, fun _ => none⟩
def fe_slices_BinarySearchFunc_int64__impl_compareSimplices (k : Nat) : FE := ⟨(.pr (.sl 25 (.sl 2 (.int .i64))) (.pr (.sl 2 (.int .i64)) (.fn 109 .un))), 2, (.pr (.int .i64) .bool), fun x => slices_BinarySearchFunc_int64__impl_compareSimplices k x.1 x.2.1 x.2.2⟩
theorem slices_BinarySearchFunc_int64__impl_compareSimplices_l0_ok (k : Nat) : LoopOK (mkEnv ti [(109, fe_impl_compareSimplices k)] (lk []) pins0 pinB0) (slices_BinarySearchFunc_int64__impl_compareSimplices_O k) (rdC (mkEnv ti [(109, fe_impl_compareSimplices k)] (lk []) pins0 pinB0) [.tmp 6, .tmp 7] (.pr (.int .i64) .bool)) ((loopsOf (codeOf Tryz.f150)).getD 0 .skip) (fun σ kx => slices_BinarySearchFunc_int64__impl_compareSimplices_l0_h.get σ fun x => slices_BinarySearchFunc_int64__impl_compareSimplices_l0_F k k x kx) := by
  refine ⟨slices_BinarySearchFunc_int64__impl_compareSimplices_l0_h, [(0, slices_BinarySearchFunc_int64__impl_compareSimplices_l0_x0)], fun n x kx => slices_BinarySearchFunc_int64__impl_compareSimplices_l0_F k n x kx, k, by kernel_rfl, by kernel_rfl, fun x kx => by kernel_rfl, ?_, fun σ kx => rfl⟩
  rintro n ⟨⟨x0, target1, cmp2, n8, i9, j10, ⟨⟩⟩, ⟨⟩, ⟨⟩⟩ kx
  kernel_rfl
theorem ok_slices_BinarySearchFunc_int64__impl_compareSimplices (k : Nat) : FnOK Tryz.prog 150 (fe_slices_BinarySearchFunc_int64__impl_compareSimplices k) := by
  refine closed_ok (tab := [(109, fe_impl_compareSimplices k)]) (l := []) ti_ok ti_ht mix (List.forall_mem_cons.2 ⟨ok_impl_compareSimplices k, (List.forall_mem_nil _)⟩) (List.forall_mem_nil _) ⟨⟨Tryz.f150, (codeOf Tryz.f150), [.tmp 6, .tmp 7], (slices_BinarySearchFunc_int64__impl_compareSimplices_O k), by kernel_rfl, by kernel_rfl, by kernel_rfl, by kernel_rfl, rfl, by decide, ⟨by kernel_rfl, ?_, ?_⟩, ?_⟩⟩
  · refine loops_of (n := 1) (by kernel_rfl) fun i hi => ?_
    match i, hi with
    | 0, _ => exact loop_of (by kernel_rfl) (slices_BinarySearchFunc_int64__impl_compareSimplices_l0_ok k)
    | n + 1, hi => omega
  · exact no_cuts (by kernel_rfl)
  · rintro ⟨x0, target1, cmp2⟩
    kernel_rfl
/- 113 loop.example/g01005/impl.indexOf -/
def impl_indexOf (k : Nat) (c0 : List (List Int)) (s1 : List Int) : Option Int := (slices_BinarySearchFunc_int64__impl_compareSimplices k c0 s1 ()).bind fun r_1 => (if (!r_1.2) = true then some (-1) else some r_1.1)
def fe_impl_indexOf (k : Nat) : FE := ⟨(.pr (.st (.sl 25 (.sl 2 (.int .i64)))) (.sl 2 (.int .i64))), 1, (.int .i64), fun x => impl_indexOf k x.1 x.2⟩
theorem ok_impl_indexOf (k : Nat) : FnOK Tryz.prog 113 (fe_impl_indexOf k) := by
  refine closed_ok (tab := [(150, fe_slices_BinarySearchFunc_int64__impl_compareSimplices k)]) (l := []) ti_ok ti_ht mix (List.forall_mem_cons.2 ⟨ok_slices_BinarySearchFunc_int64__impl_compareSimplices k, (List.forall_mem_nil _)⟩) (List.forall_mem_nil _) ⟨⟨Tryz.f113, (codeOf Tryz.f113), [.tmp 4], (LOn Int), by kernel_rfl, by kernel_rfl, by kernel_rfl, by kernel_rfl, rfl, by decide, ⟨by kernel_rfl, ?_, ?_⟩, ?_⟩⟩
  · exact no_loops (by kernel_rfl)
  · exact no_cuts (by kernel_rfl)
  · rintro ⟨c0, s1⟩
    kernel_rfl
/- 112 loop.example/g01005/impl.ValidComplex$1 -/
def impl_ValidComplex_1 (k : Nat) (f0 : List Int) (x1 : List (List Int)) (x2 : Int) : Option Bool := (if 0 ≤ (0 : Int) ∧ (0 : Int) ≤ x2 ∧ x2 ≤ x1.length then (impl_indexOf k (x1.take x2.toNat) f0).bind fun r_1 => some (decide (r_1 < 0)) else none)
def fe_impl_ValidComplex_1 (k : Nat) : FE := ⟨(.pr (.sl 2 (.int .i64)) (.pr (.ptr (.st (.sl 25 (.sl 2 (.int .i64))))) (.ptr (.int .i64)))), 1, .bool, fun x => impl_ValidComplex_1 k x.1 x.2.1 x.2.2⟩
theorem ok_impl_ValidComplex_1 (k : Nat) : FnOK Tryz.prog 112 (fe_impl_ValidComplex_1 k) := by
  refine closed_ok (tab := [(113, fe_impl_indexOf k)]) (l := []) ti_ok ti_ht mix (List.forall_mem_cons.2 ⟨ok_impl_indexOf k, (List.forall_mem_nil _)⟩) (List.forall_mem_nil _) ⟨⟨Tryz.f112, (codeOf Tryz.f112), [.tmp 4], (LOn Bool), by kernel_rfl, by kernel_rfl, by kernel_rfl, by kernel_rfl, rfl, by decide, ⟨by kernel_rfl, ?_, ?_⟩, ?_⟩⟩
  · exact no_loops (by kernel_rfl)
  · exact no_cuts (by kernel_rfl)
  · rintro ⟨f0, x1, x2⟩
    kernel_rfl
/- 148 slices.IndexFunc[[][]int64,[]int64] -/
def slices_IndexFunc_int64__impl_ValidComplex_1_l0 (k : Nat) : Nat → (List (List Int)) → (List (List Int) × Int) → Int → Int → (Option Int) → Option Int
  | 0, _, _, _, _, _ => none
  | n + 1, s0, f1, x7, x8, e_0 => (if (decide (x8 < x7)) = true then (if 0 ≤ x8 then (s0[x8.toNat]?).bind fun y_1 => (impl_ValidComplex_1 k y_1 f1.1 f1.2).bind fun r_2 => (if r_2 = true then some x8 else slices_IndexFunc_int64__impl_ValidComplex_1_l0 k n s0 f1 x7 (w_i64 (x8 + 1)) e_0) else none) else e_0)
def slices_IndexFunc_int64__impl_ValidComplex_1 (k : Nat) (s0 : List (List Int)) (f1 : List (List Int) × Int) : Option Int := slices_IndexFunc_int64__impl_ValidComplex_1_l0 k k s0 f1 (List.length s0 : Int) 0 (some (-1))
def slices_IndexFunc_int64__impl_ValidComplex_1_l0_h : Head := ⟨[(0, (.val (.sl 25 (.sl 2 (.int .i64))))), (1, (.val (.fn 112 (.pr (.ptr (.st (.sl 25 (.sl 2 (.int .i64))))) (.ptr (.int .i64)))))), (7, (.val (.int .i64))), (8, (.val (.int .i64)))], [], []⟩
def slices_IndexFunc_int64__impl_ValidComplex_1_l0_x0 : Head := ⟨[], [], []⟩
def slices_IndexFunc_int64__impl_ValidComplex_1_l0_F (k n : Nat) (x : slices_IndexFunc_int64__impl_ValidComplex_1_l0_h.T) (kx : Nat → St → Option Int) : Option Int := slices_IndexFunc_int64__impl_ValidComplex_1_l0 k n x.1.1 x.1.2.1 x.1.2.2.1 x.1.2.2.2.1 (kx 0 (slices_IndexFunc_int64__impl_ValidComplex_1_l0_x0.fill ((), (), ())))
def slices_IndexFunc_int64__impl_ValidComplex_1_O (k : Nat) : Oracles Int := ⟨fun n => bif Nat.beq n 2 then some (fun σ kx => slices_IndexFunc_int64__impl_ValidComplex_1_l0_h.get σ fun x => slices_IndexFunc_int64__impl_ValidComplex_1_l0_F k k x kx) else none, fun _ => none⟩
def fe_slices_IndexFunc_int64__impl_ValidComplex_1 (k : Nat) : FE := ⟨(.pr (.sl 25 (.sl 2 (.int .i64))) (.fn 112 (.pr (.ptr (.st (.sl 25 (.sl 2 (.int .i64))))) (.ptr (.int .i64))))), 1, (.int .i64), fun x => slices_IndexFunc_int64__impl_ValidComplex_1 k x.1 x.2⟩
theorem slices_IndexFunc_int64__impl_ValidComplex_1_l0_ok (k : Nat) : LoopOK (mkEnv ti [(112, fe_impl_ValidComplex_1 k)] (lk []) pins0 pinB0) (slices_IndexFunc_int64__impl_ValidComplex_1_O k) (rdC (mkEnv ti [(112, fe_impl_ValidComplex_1 k)] (lk []) pins0 pinB0) [.tmp 4] (.int .i64)) ((loopsOf (codeOf Tryz.f148)).getD 0 .skip) (fun σ kx => slices_IndexFunc_int64__impl_ValidComplex_1_l0_h.get σ fun x => slices_IndexFunc_int64__impl_ValidComplex_1_l0_F k k x kx) := by
  refine ⟨slices_IndexFunc_int64__impl_ValidComplex_1_l0_h, [(0, slices_IndexFunc_int64__impl_ValidComplex_1_l0_x0)], fun n x kx => slices_IndexFunc_int64__impl_ValidComplex_1_l0_F k n x kx, k, by kernel_rfl, by kernel_rfl, fun x kx => by kernel_rfl, ?_, fun σ kx => rfl⟩
  rintro n ⟨⟨s0, f1, x7, x8, ⟨⟩⟩, ⟨⟩, ⟨⟩⟩ kx
  kernel_rfl
theorem ok_slices_IndexFunc_int64__impl_ValidComplex_1 (k : Nat) : FnOK Tryz.prog 148 (fe_slices_IndexFunc_int64__impl_ValidComplex_1 k) := by
  refine closed_ok (tab := [(112, fe_impl_ValidComplex_1 k)]) (l := []) ti_ok ti_ht mix (List.forall_mem_cons.2 ⟨ok_impl_ValidComplex_1 k, (List.forall_mem_nil _)⟩) (List.forall_mem_nil _) ⟨⟨Tryz.f148, (codeOf Tryz.f148), [.tmp 4], (slices_IndexFunc_int64__impl_ValidComplex_1_O k), by kernel_rfl, by kernel_rfl, by kernel_rfl, by kernel_rfl, rfl, by decide, ⟨by kernel_rfl, ?_, ?_⟩, ?_⟩⟩
  · refine loops_of (n := 1) (by kernel_rfl) fun i hi => ?_
    match i, hi with
    | 0, _ => exact loop_of (by kernel_rfl) (slices_IndexFunc_int64__impl_ValidComplex_1_l0_ok k)
    | n + 1, hi => omega
  · exact no_cuts (by kernel_rfl)
  · rintro ⟨s0, f1⟩
    kernel_rfl
/- 110 slices.ContainsFunc[[][]int64,[]int64] -/
def slices_ContainsFunc_int64__impl_ValidComplex_1 (k : Nat) (s0 : List (List Int)) (f1 : List (List Int) × Int) : Option Bool := (slices_IndexFunc_int64__impl_ValidComplex_1 k s0 f1).bind fun r_1 => some (decide (0 ≤ r_1))
def fe_slices_ContainsFunc_int64__impl_ValidComplex_1 (k : Nat) : FE := ⟨(.pr (.sl 25 (.sl 2 (.int .i64))) (.fn 112 (.pr (.ptr (.st (.sl 25 (.sl 2 (.int .i64))))) (.ptr (.int .i64))))), 1, .bool, fun x => slices_ContainsFunc_int64__impl_ValidComplex_1 k x.1 x.2⟩
theorem ok_slices_ContainsFunc_int64__impl_ValidComplex_1 (k : Nat) : FnOK Tryz.prog 110 (fe_slices_ContainsFunc_int64__impl_ValidComplex_1 k) := by
  refine closed_ok (tab := [(148, fe_slices_IndexFunc_int64__impl_ValidComplex_1 k)]) (l := []) ti_ok ti_ht mix (List.forall_mem_cons.2 ⟨ok_slices_IndexFunc_int64__impl_ValidComplex_1 k, (List.forall_mem_nil _)⟩) (List.forall_mem_nil _) ⟨⟨Tryz.f110, (codeOf Tryz.f110), [.tmp 4], (LOn Bool), by kernel_rfl, by kernel_rfl, by kernel_rfl, by kernel_rfl, rfl, by decide, ⟨by kernel_rfl, ?_, ?_⟩, ?_⟩⟩
  · exact no_loops (by kernel_rfl)
  · exact no_cuts (by kernel_rfl)
  · rintro ⟨s0, f1⟩
    kernel_rfl
/- 59 loop.example/g01005/impl.ValidComplex -/
def impl_ValidComplex_l0 (k : Nat) : Nat → (List (List Int)) → Int → Int → (List (List Int)) → ((List (List Int)) → Option Bool) → Option Bool
  | 0, _, _, _, _, _ => none
  | n + 1, x6, x7, x8, v_1, e_0 => (if (decide (x8 < x7)) = true then (if 0 ≤ x8 then (x6[x8.toNat]?).bind fun y_1 => (impl_ValidSimplex k y_1).bind fun r_2 => (if (!r_2) = true then some false else (if (decide (0 < x8)) = true then (if 0 ≤ (w_i64 (x8 - 1)) then (v_1[(w_i64 (x8 - 1)).toNat]?).bind fun y_3 => (impl_compareSimplices k y_3 y_1).bind fun r_4 => (if (decide (0 ≤ r_4)) = true then some false else (impl_facesOf k y_1).bind fun r_5 => (slices_ContainsFunc_int64__impl_ValidComplex_1 k r_5 (v_1, x8)).bind fun r_6 => (if r_6 = true then some false else impl_ValidComplex_l0 k n x6 x7 (w_i64 (x8 + 1)) v_1 e_0)) else none) else (impl_facesOf k y_1).bind fun r_7 => (slices_ContainsFunc_int64__impl_ValidComplex_1 k r_7 (v_1, x8)).bind fun r_8 => (if r_8 = true then some false else impl_ValidComplex_l0 k n x6 x7 (w_i64 (x8 + 1)) v_1 e_0))) else none) else e_0 v_1)
def impl_ValidComplex (k : Nat) (c0 : List (List Int)) : Option Bool := impl_ValidComplex_l0 k k c0 (List.length c0 : Int) 0 c0 (fun v_9 => some (decide ((List.length v_9 : Int) ≤ 48)))
def impl_ValidComplex_l0_h : Head := ⟨[(1, (.bp 1 [] 0)), (6, (.val (.sl 25 (.sl 2 (.int .i64))))), (7, (.val (.int .i64))), (8, (.val (.int .i64)))], [], [(1, 42, (.val (.st (.sl 25 (.sl 2 (.int .i64))))))]⟩
def impl_ValidComplex_l0_x0 : Head := ⟨[(1, (.bp 1 [] 0))], [], [(1, 42, (.val (.st (.sl 25 (.sl 2 (.int .i64))))))]⟩
def impl_ValidComplex_l0_F (k n : Nat) (x : impl_ValidComplex_l0_h.T) (kx : Nat → St → Option Bool) : Option Bool := impl_ValidComplex_l0 k n x.1.2.1 x.1.2.2.1 x.1.2.2.2.1 x.2.2.1 (fun (v_1 : List (List Int)) => kx 0 (impl_ValidComplex_l0_x0.fill (((), ()), (), (v_1, ()))))
def impl_ValidComplex_O (k : Nat) : Oracles Bool := ⟨fun n => bif Nat.beq n 2 then some (fun σ kx => impl_ValidComplex_l0_h.get σ fun x => impl_ValidComplex_l0_F k k x kx) else none, fun _ => none⟩
def fe_impl_ValidComplex (k : Nat) : FE := ⟨(.st (.sl 25 (.sl 2 (.int .i64)))), 1, .bool, fun x => impl_ValidComplex k x⟩
theorem impl_ValidComplex_l0_ok (k : Nat) : LoopOK (mkEnv ti [(108, fe_impl_ValidSimplex k), (109, fe_impl_compareSimplices k), (111, fe_impl_facesOf k), (110, fe_slices_ContainsFunc_int64__impl_ValidComplex_1 k)] (lk []) pins0 pinB0) (impl_ValidComplex_O k) (rdC (mkEnv ti [(108, fe_impl_ValidSimplex k), (109, fe_impl_compareSimplices k), (111, fe_impl_facesOf k), (110, fe_slices_ContainsFunc_int64__impl_ValidComplex_1 k)] (lk []) pins0 pinB0) [.tmp 2] .bool) ((loopsOf (codeOf Tryz.f59)).getD 0 .skip) (fun σ kx => impl_ValidComplex_l0_h.get σ fun x => impl_ValidComplex_l0_F k k x kx) := by
  refine ⟨impl_ValidComplex_l0_h, [(0, impl_ValidComplex_l0_x0)], fun n x kx => impl_ValidComplex_l0_F k n x kx, k, by kernel_rfl, by kernel_rfl, fun x kx => by kernel_rfl, ?_, fun σ kx => rfl⟩
  rintro n ⟨⟨⟨⟩, x6, x7, x8, ⟨⟩⟩, ⟨⟩, ⟨v_1, ⟨⟩⟩⟩ kx
  kernel_rfl
theorem ok_impl_ValidComplex (k : Nat) : FnOK Tryz.prog 59 (fe_impl_ValidComplex k) := by
  refine closed_ok (tab := [(108, fe_impl_ValidSimplex k), (109, fe_impl_compareSimplices k), (111, fe_impl_facesOf k), (110, fe_slices_ContainsFunc_int64__impl_ValidComplex_1 k)]) (l := []) ti_ok ti_ht mix (List.forall_mem_cons.2 ⟨ok_impl_ValidSimplex k, (List.forall_mem_cons.2 ⟨ok_impl_compareSimplices k, (List.forall_mem_cons.2 ⟨ok_impl_facesOf k, (List.forall_mem_cons.2 ⟨ok_slices_ContainsFunc_int64__impl_ValidComplex_1 k, (List.forall_mem_nil _)⟩)⟩)⟩)⟩) (List.forall_mem_nil _) ⟨⟨Tryz.f59, (codeOf Tryz.f59), [.tmp 2], (impl_ValidComplex_O k), by kernel_rfl, by kernel_rfl, by kernel_rfl, by kernel_rfl, rfl, by decide, ⟨by kernel_rfl, ?_, ?_⟩, ?_⟩⟩
  · refine loops_of (n := 1) (by kernel_rfl) fun i hi => ?_
    match i, hi with
    | 0, _ => exact loop_of (by kernel_rfl) (impl_ValidComplex_l0_ok k)
    | n + 1, hi => omega
  · exact no_cuts (by kernel_rfl)
  · rintro c0
    kernel_rfl
/- 60 loop.example/g01005/impl.ValidPrime -/
def impl_ValidPrime_l0 (k : Nat) : Nat → Int → Int → (Option Bool) → Option Bool
  | 0, _, _, _ => none
  | n + 1, p0, d3, e_0 => (if (decide ((w_i64 (d3 * d3)) ≤ p0)) = true then (if d3 = 0 then none else (if (decide ((Int.tmod p0 d3) = 0)) = true then some false else impl_ValidPrime_l0 k n p0 (w_i64 (d3 + 1)) e_0)) else e_0)
def impl_ValidPrime (k : Nat) (p0 : Int) : Option Bool := (impl_within p0 2 251).bind fun r_1 => (if (!r_1) = true then some false else impl_ValidPrime_l0 k k p0 2 (some true))
def impl_ValidPrime_l0_h : Head := ⟨[(0, (.val (.int .i64))), (3, (.val (.int .i64)))], [], []⟩
def impl_ValidPrime_l0_x0 : Head := ⟨[], [], []⟩
def impl_ValidPrime_l0_F (k n : Nat) (x : impl_ValidPrime_l0_h.T) (kx : Nat → St → Option Bool) : Option Bool := impl_ValidPrime_l0 k n x.1.1 x.1.2.1 (kx 0 (impl_ValidPrime_l0_x0.fill ((), (), ())))
def impl_ValidPrime_O (k : Nat) : Oracles Bool := ⟨fun n => bif Nat.beq n 4 then some (fun σ kx => impl_ValidPrime_l0_h.get σ fun x => impl_ValidPrime_l0_F k k x kx) else none, fun _ => none⟩
def fe_impl_ValidPrime (k : Nat) : FE := ⟨(.int .i64), 1, .bool, fun x => impl_ValidPrime k x⟩
theorem impl_ValidPrime_l0_ok (k : Nat) : LoopOK (mkEnv ti [(64, fe_impl_within)] (lk []) pins0 pinB0) (impl_ValidPrime_O k) (rdC (mkEnv ti [(64, fe_impl_within)] (lk []) pins0 pinB0) [.tmp 2] .bool) ((loopsOf (codeOf Tryz.f60)).getD 0 .skip) (fun σ kx => impl_ValidPrime_l0_h.get σ fun x => impl_ValidPrime_l0_F k k x kx) := by
  refine ⟨impl_ValidPrime_l0_h, [(0, impl_ValidPrime_l0_x0)], fun n x kx => impl_ValidPrime_l0_F k n x kx, k, by kernel_rfl, by kernel_rfl, fun x kx => by kernel_rfl, ?_, fun σ kx => rfl⟩
  rintro n ⟨⟨p0, d3, ⟨⟩⟩, ⟨⟩, ⟨⟩⟩ kx
  kernel_rfl
theorem ok_impl_ValidPrime (k : Nat) : FnOK Tryz.prog 60 (fe_impl_ValidPrime k) := by
  refine closed_ok (tab := [(64, fe_impl_within)]) (l := []) ti_ok ti_ht mix (List.forall_mem_cons.2 ⟨ok_impl_within, (List.forall_mem_nil _)⟩) (List.forall_mem_nil _) ⟨⟨Tryz.f60, (codeOf Tryz.f60), [.tmp 2], (impl_ValidPrime_O k), by kernel_rfl, by kernel_rfl, by kernel_rfl, by kernel_rfl, rfl, by decide, ⟨by kernel_rfl, ?_, ?_⟩, ?_⟩⟩
  · refine loops_of (n := 1) (by kernel_rfl) fun i hi => ?_
    match i, hi with
    | 0, _ => exact loop_of (by kernel_rfl) (impl_ValidPrime_l0_ok k)
    | n + 1, hi => omega
  · exact no_cuts (by kernel_rfl)
  · rintro p0
    kernel_rfl
/- 114 loop.example/g01005/impl.areStalks$1 -/
def impl_areStalks_1 (n0 : Int) : Option Bool := (impl_within n0 0 3).bind fun r_1 => some (!r_1)
def fe_impl_areStalks_1 : FE := ⟨(.int .i64), 1, .bool, fun x => impl_areStalks_1 x⟩
theorem ok_impl_areStalks_1 : FnOK Tryz.prog 114 (fe_impl_areStalks_1) := by
  refine closed_ok (tab := [(64, fe_impl_within)]) (l := []) ti_ok ti_ht mix (List.forall_mem_cons.2 ⟨ok_impl_within, (List.forall_mem_nil _)⟩) (List.forall_mem_nil _) ⟨⟨Tryz.f114, (codeOf Tryz.f114), [.tmp 2], (LOn Bool), by kernel_rfl, by kernel_rfl, by kernel_rfl, by kernel_rfl, rfl, by decide, ⟨by kernel_rfl, ?_, ?_⟩, ?_⟩⟩
  · exact no_loops (by kernel_rfl)
  · exact no_cuts (by kernel_rfl)
  · rintro n0
    kernel_rfl
/- 124 slices.IndexFunc[[]int64,int64] -/
def slices_IndexFunc_int64__impl_areStalks_1_l0 (k : Nat) : Nat → (List Int) → Unit → Int → Int → (Option Int) → Option Int
  | 0, _, _, _, _, _ => none
  | n + 1, s0, f1, x7, x8, e_0 => (if (decide (x8 < x7)) = true then (if 0 ≤ x8 then (s0[x8.toNat]?).bind fun y_1 => (impl_areStalks_1 y_1).bind fun r_2 => (if r_2 = true then some x8 else slices_IndexFunc_int64__impl_areStalks_1_l0 k n s0 f1 x7 (w_i64 (x8 + 1)) e_0) else none) else e_0)
def slices_IndexFunc_int64__impl_areStalks_1 (k : Nat) (s0 : List Int) (f1 : Unit) : Option Int := slices_IndexFunc_int64__impl_areStalks_1_l0 k k s0 f1 (List.length s0 : Int) 0 (some (-1))
def slices_IndexFunc_int64__impl_areStalks_1_l0_h : Head := ⟨[(0, (.val (.sl 2 (.int .i64)))), (1, (.val (.fn 114 .un))), (7, (.val (.int .i64))), (8, (.val (.int .i64)))], [], []⟩
def slices_IndexFunc_int64__impl_areStalks_1_l0_x0 : Head := ⟨[], [], []⟩
def slices_IndexFunc_int64__impl_areStalks_1_l0_F (k n : Nat) (x : slices_IndexFunc_int64__impl_areStalks_1_l0_h.T) (kx : Nat → St → Option Int) : Option Int := slices_IndexFunc_int64__impl_areStalks_1_l0 k n x.1.1 x.1.2.1 x.1.2.2.1 x.1.2.2.2.1 (kx 0 (slices_IndexFunc_int64__impl_areStalks_1_l0_x0.fill ((), (), ())))
def slices_IndexFunc_int64__impl_areStalks_1_O (k : Nat) : Oracles Int := ⟨fun n => bif Nat.beq n 2 then some (fun σ kx => slices_IndexFunc_int64__impl_areStalks_1_l0_h.get σ fun x => slices_IndexFunc_int64__impl_areStalks_1_l0_F k k x kx) else none, fun _ => none⟩
def fe_slices_IndexFunc_int64__impl_areStalks_1 (k : Nat) : FE := ⟨(.pr (.sl 2 (.int .i64)) (.fn 114 .un)), 1, (.int .i64), fun x => slices_IndexFunc_int64__impl_areStalks_1 k x.1 x.2⟩
theorem slices_IndexFunc_int64__impl_areStalks_1_l0_ok (k : Nat) : LoopOK (mkEnv ti [(114, fe_impl_areStalks_1)] (lk []) pins0 pinB0) (slices_IndexFunc_int64__impl_areStalks_1_O k) (rdC (mkEnv ti [(114, fe_impl_areStalks_1)] (lk []) pins0 pinB0) [.tmp 4] (.int .i64)) ((loopsOf (codeOf Tryz.f124)).getD 0 .skip) (fun σ kx => slices_IndexFunc_int64__impl_areStalks_1_l0_h.get σ fun x => slices_IndexFunc_int64__impl_areStalks_1_l0_F k k x kx) := by
  refine ⟨slices_IndexFunc_int64__impl_areStalks_1_l0_h, [(0, slices_IndexFunc_int64__impl_areStalks_1_l0_x0)], fun n x kx => slices_IndexFunc_int64__impl_areStalks_1_l0_F k n x kx, k, by kernel_rfl, by kernel_rfl, fun x kx => by kernel_rfl, ?_, fun σ kx => rfl⟩
  rintro n ⟨⟨s0, f1, x7, x8, ⟨⟩⟩, ⟨⟩, ⟨⟩⟩ kx
  kernel_rfl
theorem ok_slices_IndexFunc_int64__impl_areStalks_1 (k : Nat) : FnOK Tryz.prog 124 (fe_slices_IndexFunc_int64__impl_areStalks_1 k) := by
  refine closed_ok (tab := [(114, fe_impl_areStalks_1)]) (l := []) ti_ok ti_ht mix (List.forall_mem_cons.2 ⟨ok_impl_areStalks_1, (List.forall_mem_nil _)⟩) (List.forall_mem_nil _) ⟨⟨Tryz.f124, (codeOf Tryz.f124), [.tmp 4], (slices_IndexFunc_int64__impl_areStalks_1_O k), by kernel_rfl, by kernel_rfl, by kernel_rfl, by kernel_rfl, rfl, by decide, ⟨by kernel_rfl, ?_, ?_⟩, ?_⟩⟩
  · refine loops_of (n := 1) (by kernel_rfl) fun i hi => ?_
    match i, hi with
    | 0, _ => exact loop_of (by kernel_rfl) (slices_IndexFunc_int64__impl_areStalks_1_l0_ok k)
    | n + 1, hi => omega
  · exact no_cuts (by kernel_rfl)
  · rintro ⟨s0, f1⟩
    kernel_rfl
/- 72 slices.ContainsFunc[[]int64,int64] -/
def slices_ContainsFunc_int64__impl_areStalks_1 (k : Nat) (s0 : List Int) (f1 : Unit) : Option Bool := (slices_IndexFunc_int64__impl_areStalks_1 k s0 f1).bind fun r_1 => some (decide (0 ≤ r_1))
def fe_slices_ContainsFunc_int64__impl_areStalks_1 (k : Nat) : FE := ⟨(.pr (.sl 2 (.int .i64)) (.fn 114 .un)), 1, .bool, fun x => slices_ContainsFunc_int64__impl_areStalks_1 k x.1 x.2⟩
theorem ok_slices_ContainsFunc_int64__impl_areStalks_1 (k : Nat) : FnOK Tryz.prog 72 (fe_slices_ContainsFunc_int64__impl_areStalks_1 k) := by
  refine closed_ok (tab := [(124, fe_slices_IndexFunc_int64__impl_areStalks_1 k)]) (l := []) ti_ok ti_ht mix (List.forall_mem_cons.2 ⟨ok_slices_IndexFunc_int64__impl_areStalks_1 k, (List.forall_mem_nil _)⟩) (List.forall_mem_nil _) ⟨⟨Tryz.f72, (codeOf Tryz.f72), [.tmp 4], (LOn Bool), by kernel_rfl, by kernel_rfl, by kernel_rfl, by kernel_rfl, rfl, by decide, ⟨by kernel_rfl, ?_, ?_⟩, ?_⟩⟩
  · exact no_loops (by kernel_rfl)
  · exact no_cuts (by kernel_rfl)
  · rintro ⟨s0, f1⟩
    kernel_rfl
/- 67 loop.example/g01005/impl.size[int64] -/
def impl_size_int64 (list0 : List Int) : Option Int := some (List.length list0 : Int)
def fe_impl_size_int64 : FE := ⟨(.sl 2 (.int .i64)), 1, (.int .i64), fun x => impl_size_int64 x⟩
theorem ok_impl_size_int64 : FnOK Tryz.prog 67 (fe_impl_size_int64) := by
  refine closed_ok (tab := []) (l := []) ti_ok ti_ht mix (List.forall_mem_nil _) (List.forall_mem_nil _) ⟨⟨Tryz.f67, (codeOf Tryz.f67), [.tmp 2], (LOn Int), by kernel_rfl, by kernel_rfl, by kernel_rfl, by kernel_rfl, rfl, by decide, ⟨by kernel_rfl, ?_, ?_⟩, ?_⟩⟩
  · exact no_loops (by kernel_rfl)
  · exact no_cuts (by kernel_rfl)
  · rintro list0
    kernel_rfl
/- 82 loop.example/g01005/impl.simplicesOf -/
def impl_simplicesOf_l0 (k : Nat) : Nat → Int → (List (List Int)) → Int → Int → (List Int) → ((List Int) → Option (List Int)) → Option (List Int)
  | 0, _, _, _, _, _, _ => none
  | n + 1, dimension1, x9, x10, x11, q_1, e_0 => (if (decide (x11 < x10)) = true then (if 0 ≤ x11 then (x9[x11.toNat]?).bind fun y_2 => (impl_size_int64 y_2).bind fun r_3 => (if (decide (r_3 = (w_i64 (dimension1 + 1)))) = true then (if (q_1.length + [x11].length) * 8 ≤ LIM then impl_simplicesOf_l0 k n dimension1 x9 x10 (w_i64 (x11 + 1)) (q_1 ++ [x11]) e_0 else none) else impl_simplicesOf_l0 k n dimension1 x9 x10 (w_i64 (x11 + 1)) q_1 e_0) else none) else e_0 q_1)
def impl_simplicesOf (k : Nat) (c0 : List (List Int)) (dimension1 : Int) : Option (List Int) := impl_simplicesOf_l0 k k dimension1 c0 (List.length c0 : Int) 0 [] (fun q_4 => some q_4)
def impl_simplicesOf_l0_h : Head := ⟨[(1, (.val (.int .i64))), (5, (.ref 64000000 [])), (9, (.val (.sl 25 (.sl 2 (.int .i64))))), (10, (.val (.int .i64))), (11, (.val (.int .i64)))], [(64000000, 2, (.int .i64), false)], []⟩
def impl_simplicesOf_l0_x0 : Head := ⟨[(5, (.ref 64000000 []))], [(64000000, 2, (.int .i64), false)], []⟩
def impl_simplicesOf_l0_F (k n : Nat) (x : impl_simplicesOf_l0_h.T) (kx : Nat → St → Option (List Int)) : Option (List Int) := impl_simplicesOf_l0 k n x.1.1 x.1.2.2.1 x.1.2.2.2.1 x.1.2.2.2.2.1 x.2.1.1 (fun (q_4 : List Int) => kx 0 (impl_simplicesOf_l0_x0.fill (((), ()), (q_4, ()), ())))
def impl_simplicesOf_O (k : Nat) : Oracles (List Int) := ⟨fun n => bif Nat.beq n 3 then some (fun σ kx => impl_simplicesOf_l0_h.get σ fun x => impl_simplicesOf_l0_F k k x kx) else none, fun _ => none⟩
def fe_impl_simplicesOf (k : Nat) : FE := ⟨(.pr (.st (.sl 25 (.sl 2 (.int .i64)))) (.int .i64)), 1, (.sl 2 (.int .i64)), fun x => impl_simplicesOf k x.1 x.2⟩
theorem impl_simplicesOf_l0_ok (k : Nat) : LoopOK (mkEnv ti [(67, fe_impl_size_int64)] (lk []) pins0 pinB0) (impl_simplicesOf_O k) (rdC (mkEnv ti [(67, fe_impl_size_int64)] (lk []) pins0 pinB0) [.tmp 4] (.sl 2 (.int .i64))) ((loopsOf (codeOf Tryz.f82)).getD 0 .skip) (fun σ kx => impl_simplicesOf_l0_h.get σ fun x => impl_simplicesOf_l0_F k k x kx) := by
  refine ⟨impl_simplicesOf_l0_h, [(0, impl_simplicesOf_l0_x0)], fun n x kx => impl_simplicesOf_l0_F k n x kx, k, by kernel_rfl, by kernel_rfl, fun x kx => by kernel_rfl, ?_, fun σ kx => rfl⟩
  rintro n ⟨⟨dimension1, ⟨⟩, x9, x10, x11, ⟨⟩⟩, ⟨q_1, ⟨⟩⟩, ⟨⟩⟩ kx
  kernel_rfl
theorem ok_impl_simplicesOf (k : Nat) : FnOK Tryz.prog 82 (fe_impl_simplicesOf k) := by
  refine closed_ok (tab := [(67, fe_impl_size_int64)]) (l := []) ti_ok ti_ht mix (List.forall_mem_cons.2 ⟨ok_impl_size_int64, (List.forall_mem_nil _)⟩) (List.forall_mem_nil _) ⟨⟨Tryz.f82, (codeOf Tryz.f82), [.tmp 4], (impl_simplicesOf_O k), by kernel_rfl, by kernel_rfl, by kernel_rfl, by kernel_rfl, rfl, by decide, ⟨by kernel_rfl, ?_, ?_⟩, ?_⟩⟩
  · refine loops_of (n := 1) (by kernel_rfl) fun i hi => ?_
    match i, hi with
    | 0, _ => exact loop_of (by kernel_rfl) (impl_simplicesOf_l0_ok k)
    | n + 1, hi => omega
  · exact no_cuts (by kernel_rfl)
  · rintro ⟨c0, dimension1⟩
    kernel_rfl
/- 31 loop.example/g01005/impl.stalkSum -/
def impl_stalkSum_l0 (k : Nat) : Nat → Int → Int → Int → (List Int) → (List (List Int) × Int × List Int × List (Int × Int × Int × List Int)) → (Int → Option Int) → Option Int
  | 0, _, _, _, _, _, _ => none
  | n + 1, sum5, x12, x13, q_2, v_2, e_0 => (if (decide (x13 < x12)) = true then (if 0 ≤ x13 ∧ x13.toNat < List.length q_2 then (q_2[x13.toNat]?).bind fun y_3 => (if 0 ≤ y_3 then (v_2.2.2.1[y_3.toNat]?).bind fun y_4 => impl_stalkSum_l0 k n (w_i64 (sum5 + y_4)) x12 (w_i64 (x13 + 1)) q_2 v_2 e_0 else none) else none) else e_0 sum5)
def impl_stalkSum (k : Nat) (s0 : List (List Int) × Int × List Int × List (Int × Int × Int × List Int)) (k1 : Int) : Option Int := (impl_simplicesOf k s0.1 k1).bind fun r_1 => impl_stalkSum_l0 k k 0 (List.length r_1 : Int) 0 r_1 s0 (fun sum_5 => some sum_5)
def impl_stalkSum_l0_h : Head := ⟨[(2, (.bp 2 [] 0)), (5, (.val (.int .i64))), (11, (.ref 64000000 [])), (12, (.val (.int .i64))), (13, (.val (.int .i64)))], [(64000000, 2, (.int .i64), false)], [(2, 45, (.val (.st (.pr (.st (.sl 25 (.sl 2 (.int .i64)))) (.pr (.int .i64) (.pr (.sl 2 (.int .i64)) (.sl 49 (.st (.pr (.int .i64) (.pr (.int .i64) (.pr (.int .i64) (.sl 2 (.int .i64)))))))))))))]⟩
def impl_stalkSum_l0_x0 : Head := ⟨[(5, (.val (.int .i64)))], [], []⟩
def impl_stalkSum_l0_F (k n : Nat) (x : impl_stalkSum_l0_h.T) (kx : Nat → St → Option Int) : Option Int := impl_stalkSum_l0 k n x.1.2.1 x.1.2.2.2.1 x.1.2.2.2.2.1 x.2.1.1 x.2.2.1 (fun (sum5 : Int) => kx 0 (impl_stalkSum_l0_x0.fill ((sum5, ()), (), ())))
def impl_stalkSum_O (k : Nat) : Oracles Int := ⟨fun n => bif Nat.beq n 3 then some (fun σ kx => impl_stalkSum_l0_h.get σ fun x => impl_stalkSum_l0_F k k x kx) else none, fun _ => none⟩
def fe_impl_stalkSum (k : Nat) : FE := ⟨(.pr (.st (.pr (.st (.sl 25 (.sl 2 (.int .i64)))) (.pr (.int .i64) (.pr (.sl 2 (.int .i64)) (.sl 49 (.st (.pr (.int .i64) (.pr (.int .i64) (.pr (.int .i64) (.sl 2 (.int .i64))))))))))) (.int .i64)), 1, (.int .i64), fun x => impl_stalkSum k x.1 x.2⟩
theorem impl_stalkSum_l0_ok (k : Nat) : LoopOK (mkEnv ti [(82, fe_impl_simplicesOf k)] (lk []) pins0 pinB0) (impl_stalkSum_O k) (rdC (mkEnv ti [(82, fe_impl_simplicesOf k)] (lk []) pins0 pinB0) [.tmp 4] (.int .i64)) ((loopsOf (codeOf Tryz.f31)).getD 0 .skip) (fun σ kx => impl_stalkSum_l0_h.get σ fun x => impl_stalkSum_l0_F k k x kx) := by
  refine ⟨impl_stalkSum_l0_h, [(0, impl_stalkSum_l0_x0)], fun n x kx => impl_stalkSum_l0_F k n x kx, k, by kernel_rfl, by kernel_rfl, fun x kx => by kernel_rfl, ?_, fun σ kx => rfl⟩
  rintro n ⟨⟨⟨⟩, sum5, ⟨⟩, x12, x13, ⟨⟩⟩, ⟨q_2, ⟨⟩⟩, ⟨v_2, ⟨⟩⟩⟩ kx
  kernel_rfl
theorem ok_impl_stalkSum (k : Nat) : FnOK Tryz.prog 31 (fe_impl_stalkSum k) := by
  refine closed_ok (tab := [(82, fe_impl_simplicesOf k)]) (l := []) ti_ok ti_ht mix (List.forall_mem_cons.2 ⟨ok_impl_simplicesOf k, (List.forall_mem_nil _)⟩) (List.forall_mem_nil _) ⟨⟨Tryz.f31, (codeOf Tryz.f31), [.tmp 4], (impl_stalkSum_O k), by kernel_rfl, by kernel_rfl, by kernel_rfl, by kernel_rfl, rfl, by decide, ⟨by kernel_rfl, ?_, ?_⟩, ?_⟩⟩
  · refine loops_of (n := 1) (by kernel_rfl) fun i hi => ?_
    match i, hi with
    | 0, _ => exact loop_of (by kernel_rfl) (impl_stalkSum_l0_ok k)
    | n + 1, hi => omega
  · exact no_cuts (by kernel_rfl)
  · rintro ⟨s0, k1⟩
    kernel_rfl
/- 61 loop.example/g01005/impl.areStalks -/
def impl_areStalks_l0 (k : Nat) : Nat → (List Int) → Int → (List (List Int)) → (Option Bool) → Option Bool
  | 0, _, _, _, _ => none
  | n + 1, stalks1, x16, v_2, e_0 => (if (decide (x16 < 4)) = true then (impl_stalkSum k (v_2, (0, (stalks1, []))) x16).bind fun r_2 => (if (decide (32 < r_2)) = true then some false else impl_areStalks_l0 k n stalks1 (w_i64 (x16 + 1)) v_2 e_0) else e_0)
def impl_areStalks (k : Nat) (c0 : List (List Int)) (stalks1 : List Int) : Option Bool := (if (!(decide ((List.length stalks1 : Int) = (List.length c0 : Int)))) = true then some false else (slices_ContainsFunc_int64__impl_areStalks_1 k stalks1 ()).bind fun r_1 => (if r_1 = true then some false else impl_areStalks_l0 k k stalks1 0 c0 (some true)))
def impl_areStalks_l0_h : Head := ⟨[(1, (.val (.sl 2 (.int .i64)))), (2, (.bp 2 [] 0)), (16, (.val (.int .i64)))], [], [(2, 42, (.val (.st (.sl 25 (.sl 2 (.int .i64))))))]⟩
def impl_areStalks_l0_x0 : Head := ⟨[], [], []⟩
def impl_areStalks_l0_F (k n : Nat) (x : impl_areStalks_l0_h.T) (kx : Nat → St → Option Bool) : Option Bool := impl_areStalks_l0 k n x.1.1 x.1.2.2.1 x.2.2.1 (kx 0 (impl_areStalks_l0_x0.fill ((), (), ())))
def impl_areStalks_O (k : Nat) : Oracles Bool := ⟨fun n => bif Nat.beq n 4 then some (fun σ kx => impl_areStalks_l0_h.get σ fun x => impl_areStalks_l0_F k k x kx) else none, fun _ => none⟩
def fe_impl_areStalks (k : Nat) : FE := ⟨(.pr (.st (.sl 25 (.sl 2 (.int .i64)))) (.sl 2 (.int .i64))), 1, .bool, fun x => impl_areStalks k x.1 x.2⟩
theorem impl_areStalks_l0_ok (k : Nat) : LoopOK (mkEnv ti [(72, fe_slices_ContainsFunc_int64__impl_areStalks_1 k), (31, fe_impl_stalkSum k)] (lk []) pins0 pinB0) (impl_areStalks_O k) (rdC (mkEnv ti [(72, fe_slices_ContainsFunc_int64__impl_areStalks_1 k), (31, fe_impl_stalkSum k)] (lk []) pins0 pinB0) [.tmp 4] .bool) ((loopsOf (codeOf Tryz.f61)).getD 0 .skip) (fun σ kx => impl_areStalks_l0_h.get σ fun x => impl_areStalks_l0_F k k x kx) := by
  refine ⟨impl_areStalks_l0_h, [(0, impl_areStalks_l0_x0)], fun n x kx => impl_areStalks_l0_F k n x kx, k, by kernel_rfl, by kernel_rfl, fun x kx => by kernel_rfl, ?_, fun σ kx => rfl⟩
  rintro n ⟨⟨stalks1, ⟨⟩, x16, ⟨⟩⟩, ⟨⟩, ⟨v_2, ⟨⟩⟩⟩ kx
  kernel_rfl
theorem ok_impl_areStalks (k : Nat) : FnOK Tryz.prog 61 (fe_impl_areStalks k) := by
  refine closed_ok (tab := [(72, fe_slices_ContainsFunc_int64__impl_areStalks_1 k), (31, fe_impl_stalkSum k)]) (l := []) ti_ok ti_ht mix (List.forall_mem_cons.2 ⟨ok_slices_ContainsFunc_int64__impl_areStalks_1 k, (List.forall_mem_cons.2 ⟨ok_impl_stalkSum k, (List.forall_mem_nil _)⟩)⟩) (List.forall_mem_nil _) ⟨⟨Tryz.f61, (codeOf Tryz.f61), [.tmp 4], (impl_areStalks_O k), by kernel_rfl, by kernel_rfl, by kernel_rfl, by kernel_rfl, rfl, by decide, ⟨by kernel_rfl, ?_, ?_⟩, ?_⟩⟩
  · refine loops_of (n := 1) (by kernel_rfl) fun i hi => ?_
    match i, hi with
    | 0, _ => exact loop_of (by kernel_rfl) (impl_areStalks_l0_ok k)
    | n + 1, hi => omega
  · exact no_cuts (by kernel_rfl)
  · rintro ⟨c0, stalks1⟩
    kernel_rfl
/- 115 loop.example/g01005/impl.size[[]int64] -/
def impl_size_int64_i2 (list0 : List (List Int)) : Option Int := some (List.length list0 : Int)
def fe_impl_size_int64_i2 : FE := ⟨(.sl 25 (.sl 2 (.int .i64))), 1, (.int .i64), fun x => impl_size_int64_i2 x⟩
theorem ok_impl_size_int64_i2 : FnOK Tryz.prog 115 (fe_impl_size_int64_i2) := by
  refine closed_ok (tab := []) (l := []) ti_ok ti_ht mix (List.forall_mem_nil _) (List.forall_mem_nil _) ⟨⟨Tryz.f115, (codeOf Tryz.f115), [.tmp 2], (LOn Int), by kernel_rfl, by kernel_rfl, by kernel_rfl, by kernel_rfl, rfl, by decide, ⟨by kernel_rfl, ?_, ?_⟩, ?_⟩⟩
  · exact no_loops (by kernel_rfl)
  · exact no_cuts (by kernel_rfl)
  · rintro list0
    kernel_rfl
end
end Go.Proofs.YtmmkijdfiaaobaaGreat.Ev
