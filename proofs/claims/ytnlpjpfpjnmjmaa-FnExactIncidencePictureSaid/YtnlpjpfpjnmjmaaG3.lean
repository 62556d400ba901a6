/- Functions of the program, as plain ones. No conditions. -/
import Derived.Test.YtnlpjpfpjnmjmaaG2
import Derived.KernelRfl
set_option linter.unusedVariables false
set_option maxRecDepth 100000
namespace Go.Proofs.Ytnlpjpfpjnmjmaa.Ev
open Go.RowKit
noncomputable section
/- 63 slices.Concat[[]int64,int64] -/
def slices_Concat_int64_l0 (k : Nat) : Nat → (List (List Int)) → Int → (List (List Int)) → Int → Int → ((List (List Int)) → Int → Option (List Int)) → Option (List Int)
  | 0, _, _, _, _, _, _ => none
  | n + 1, slices0, size3, x9, x10, x11, e_0 => (if (decide (x11 < x10)) = true then (if 0 ≤ x11 then (x9[x11.toNat]?).bind fun y_1 => (if (decide ((w_i64 (size3 + (List.length y_1 : Int))) < 0)) = true then none else slices_Concat_int64_l0 k n slices0 (w_i64 (size3 + (List.length y_1 : Int))) x9 x10 (w_i64 (x11 + 1)) e_0) else none) else e_0 slices0 size3)
def slices_Concat_int64_l1 (k : Nat) : Nat → (List (List Int)) → Int → Int → (List Int) → ((List Int) → Option (List Int)) → Option (List Int)
  | 0, _, _, _, _, _ => none
  | n + 1, x25, x26, x27, q_5, e_2 => (if (decide (x27 < x26)) = true then (if 0 ≤ x27 then (x25[x27.toNat]?).bind fun y_6 => (if (q_5.length + y_6.length) * 8 ≤ LIM then slices_Concat_int64_l1 k n x25 x26 (w_i64 (x27 + 1)) (q_5 ++ y_6) e_2 else none) else none) else e_2 q_5)
def slices_Concat_int64 (k : Nat) (slices0 : List (List Int)) : Option (List Int) := slices_Concat_int64_l0 k k slices0 0 slices0 (List.length slices0 : Int) 0 (fun slices_2 size_3 => (slices_Grow_int64_s size_3 []).bind fun y_4 => slices_Concat_int64_l1 k k slices_2 (List.length slices_2 : Int) 0 y_4.2.1.1 (fun q_7 => some q_7))
def slices_Concat_int64_l0_h : Head := ⟨[(0, (.val (.sl 43 (.sl 2 (.int .i64))))), (3, (.val (.int .i64))), (9, (.val (.sl 43 (.sl 2 (.int .i64))))), (10, (.val (.int .i64))), (11, (.val (.int .i64)))], [], []⟩
def slices_Concat_int64_l0_x0 : Head := ⟨[(0, (.val (.sl 43 (.sl 2 (.int .i64))))), (3, (.val (.int .i64)))], [], []⟩
def slices_Concat_int64_l0_F (k n : Nat) (x : slices_Concat_int64_l0_h.T) (kx : Nat → St → Option (List Int)) : Option (List Int) := slices_Concat_int64_l0 k n x.1.1 x.1.2.1 x.1.2.2.1 x.1.2.2.2.1 x.1.2.2.2.2.1 (fun (slices0 : List (List Int)) (size3 : Int) => kx 0 (slices_Concat_int64_l0_x0.fill ((slices0, size3, ()), (), ())))
def slices_Concat_int64_l1_h : Head := ⟨[(6, (.ref 64000000 [])), (25, (.val (.sl 43 (.sl 2 (.int .i64))))), (26, (.val (.int .i64))), (27, (.val (.int .i64)))], [(64000000, 2, (.int .i64), false)], []⟩
def slices_Concat_int64_l1_x2 : Head := ⟨[(6, (.ref 64000000 []))], [(64000000, 2, (.int .i64), false)], []⟩
def slices_Concat_int64_l1_F (k n : Nat) (x : slices_Concat_int64_l1_h.T) (kx : Nat → St → Option (List Int)) : Option (List Int) := slices_Concat_int64_l1 k n x.1.2.1 x.1.2.2.1 x.1.2.2.2.1 x.2.1.1 (fun (q_7 : List Int) => kx 2 (slices_Concat_int64_l1_x2.fill (((), ()), (q_7, ()), ())))
def slices_Concat_int64_O (k : Nat) : Oracles (List Int) := ⟨fun n => bif Nat.beq n 3 then some (fun σ kx => slices_Concat_int64_l0_h.get σ fun x => slices_Concat_int64_l0_F k k x kx) else bif Nat.beq n 11 then some (fun σ kx => slices_Concat_int64_l1_h.get σ fun x => slices_Concat_int64_l1_F k k x kx) else none, fun _ => none⟩
def fe_slices_Concat_int64 (k : Nat) : FE := ⟨(.sl 43 (.sl 2 (.int .i64))), 1, (.sl 2 (.int .i64)), fun x => slices_Concat_int64 k x⟩
theorem slices_Concat_int64_l0_ok (k : Nat) : LoopOK (mkEnv ti [] (lk [(24, 76, oc_slices_Grow_int64_s)]) pins0 pinB0) (slices_Concat_int64_O k) (rdC (mkEnv ti [] (lk [(24, 76, oc_slices_Grow_int64_s)]) pins0 pinB0) [.tmp 2] (.sl 2 (.int .i64))) ((loopsOf (codeOf Try.f63)).getD 0 .skip) (fun σ kx => slices_Concat_int64_l0_h.get σ fun x => slices_Concat_int64_l0_F k k x kx) := by
  refine ⟨slices_Concat_int64_l0_h, [(0, slices_Concat_int64_l0_x0)], fun n x kx => slices_Concat_int64_l0_F k n x kx, k, by kernel_rfl, by kernel_rfl, fun x kx => by kernel_rfl, ?_, fun σ kx => rfl⟩
  rintro n ⟨⟨slices0, size3, x9, x10, x11, ⟨⟩⟩, ⟨⟩, ⟨⟩⟩ kx
  kernel_rfl
theorem slices_Concat_int64_l1_ok (k : Nat) : LoopOK (mkEnv ti [] (lk [(24, 76, oc_slices_Grow_int64_s)]) pins0 pinB0) (slices_Concat_int64_O k) (rdC (mkEnv ti [] (lk [(24, 76, oc_slices_Grow_int64_s)]) pins0 pinB0) [.tmp 2] (.sl 2 (.int .i64))) ((loopsOf (codeOf Try.f63)).getD 1 .skip) (fun σ kx => slices_Concat_int64_l1_h.get σ fun x => slices_Concat_int64_l1_F k k x kx) := by
  refine ⟨slices_Concat_int64_l1_h, [(2, slices_Concat_int64_l1_x2)], fun n x kx => slices_Concat_int64_l1_F k n x kx, k, by kernel_rfl, by kernel_rfl, fun x kx => by kernel_rfl, ?_, fun σ kx => rfl⟩
  rintro n ⟨⟨⟨⟩, x25, x26, x27, ⟨⟩⟩, ⟨q_5, ⟨⟩⟩, ⟨⟩⟩ kx
  kernel_rfl
theorem ok_slices_Concat_int64 (k : Nat) : FnOK Try.prog 63 (fe_slices_Concat_int64 k) := by
  refine closed_ok (tab := []) (l := [(24, 76, oc_slices_Grow_int64_s)]) ti_ok ti_ht mix (List.forall_mem_nil _) (List.forall_mem_cons.2 ⟨ok_slices_Grow_int64_s, (List.forall_mem_nil _)⟩) ⟨⟨Try.f63, (codeOf Try.f63), [.tmp 2], (slices_Concat_int64_O k), by kernel_rfl, by kernel_rfl, by kernel_rfl, by kernel_rfl, rfl, by decide, ⟨by kernel_rfl, ?_, ?_⟩, ?_⟩⟩
  · refine loops_of (n := 2) (by kernel_rfl) fun i hi => ?_
    match i, hi with
    | 0, _ => exact loop_of (by kernel_rfl) (slices_Concat_int64_l0_ok k)
    | 1, _ => exact loop_of (by kernel_rfl) (slices_Concat_int64_l1_ok k)
    | n + 2, hi => omega
  · exact no_cuts (by kernel_rfl)
  · rintro slices0
    kernel_rfl
/- 37 loop.example/g01005/impl.facesOf -/
def impl_facesOf_l0 (k : Nat) : Nat → (List Int) → Int → Int → (List (List Int)) → ((List (List Int)) → Option (List (List Int))) → Option (List (List Int))
  | 0, _, _, _, _, _ => none
  | n + 1, s0, x6, x7, q_1, e_0 => (if (decide (x7 < x6)) = true then (if (decide (1 < (List.length s0 : Int))) = true then (if 0 ≤ (0 : Int) ∧ (0 : Int) ≤ x7 ∧ x7 ≤ s0.length then (if 0 ≤ (w_i64 (x7 + 1)) ∧ (w_i64 (x7 + 1)) ≤ (s0.length : Int) ∧ (s0.length : Int) ≤ s0.length then (slices_Concat_int64 k [(s0.take x7.toNat), ((s0.drop ((w_i64 (x7 + 1)).toNat)).take (s0.length - (w_i64 (x7 + 1)).toNat))]).bind fun r_2 => (if (q_1.length + [r_2].length) * 24 ≤ LIM then impl_facesOf_l0 k n s0 x6 (w_i64 (x7 + 1)) (q_1 ++ [r_2]) e_0 else none) else none) else none) else impl_facesOf_l0 k n s0 x6 (w_i64 (x7 + 1)) q_1 e_0) else e_0 q_1)
def impl_facesOf (k : Nat) (s0 : List Int) : Option (List (List Int)) := impl_facesOf_l0 k k s0 (List.length s0 : Int) 0 [] (fun q_3 => some q_3)
def impl_facesOf_l0_h : Head := ⟨[(0, (.val (.sl 2 (.int .i64)))), (3, (.ref 64000000 [])), (6, (.val (.int .i64))), (7, (.val (.int .i64)))], [(64000000, 43, (.sl 2 (.int .i64)), false)], []⟩
def impl_facesOf_l0_x0 : Head := ⟨[(3, (.ref 64000000 []))], [(64000000, 43, (.sl 2 (.int .i64)), false)], []⟩
def impl_facesOf_l0_F (k n : Nat) (x : impl_facesOf_l0_h.T) (kx : Nat → St → Option (List (List Int))) : Option (List (List Int)) := impl_facesOf_l0 k n x.1.1 x.1.2.2.1 x.1.2.2.2.1 x.2.1.1 (fun (q_3 : List (List Int)) => kx 0 (impl_facesOf_l0_x0.fill (((), ()), (q_3, ()), ())))
def impl_facesOf_O (k : Nat) : Oracles (List (List Int)) := ⟨fun n => bif Nat.beq n 3 then some (fun σ kx => impl_facesOf_l0_h.get σ fun x => impl_facesOf_l0_F k k x kx) else none, fun _ => none⟩
def fe_impl_facesOf (k : Nat) : FE := ⟨(.sl 2 (.int .i64)), 1, (.sl 43 (.sl 2 (.int .i64))), fun x => impl_facesOf k x⟩
theorem impl_facesOf_l0_ok (k : Nat) : LoopOK (mkEnv ti [(63, fe_slices_Concat_int64 k)] (lk []) pins0 pinB0) (impl_facesOf_O k) (rdC (mkEnv ti [(63, fe_slices_Concat_int64 k)] (lk []) pins0 pinB0) [.tmp 2] (.sl 43 (.sl 2 (.int .i64)))) ((loopsOf (codeOf Try.f37)).getD 0 .skip) (fun σ kx => impl_facesOf_l0_h.get σ fun x => impl_facesOf_l0_F k k x kx) := by
  refine ⟨impl_facesOf_l0_h, [(0, impl_facesOf_l0_x0)], fun n x kx => impl_facesOf_l0_F k n x kx, k, by kernel_rfl, by kernel_rfl, fun x kx => by kernel_rfl, ?_, fun σ kx => rfl⟩
  rintro n ⟨⟨s0, ⟨⟩, x6, x7, ⟨⟩⟩, ⟨q_1, ⟨⟩⟩, ⟨⟩⟩ kx
  kernel_rfl
theorem ok_impl_facesOf (k : Nat) : FnOK Try.prog 37 (fe_impl_facesOf k) := by
  refine closed_ok (tab := [(63, fe_slices_Concat_int64 k)]) (l := []) ti_ok ti_ht mix (List.forall_mem_cons.2 ⟨ok_slices_Concat_int64 k, (List.forall_mem_nil _)⟩) (List.forall_mem_nil _) ⟨⟨Try.f37, (codeOf Try.f37), [.tmp 2], (impl_facesOf_O k), by kernel_rfl, by kernel_rfl, by kernel_rfl, by kernel_rfl, rfl, by decide, ⟨by kernel_rfl, ?_, ?_⟩, ?_⟩⟩
  · refine loops_of (n := 1) (by kernel_rfl) fun i hi => ?_
    match i, hi with
    | 0, _ => exact loop_of (by kernel_rfl) (impl_facesOf_l0_ok k)
    | n + 1, hi => omega
  · exact no_cuts (by kernel_rfl)
  · rintro s0
    kernel_rfl
/- 64 slices.BinarySearchFunc[[][]int64,[]int64,[]int64] -/
def slices_BinarySearchFunc_int64__impl_compareSimplices_l0 (k : Nat) : Nat → (List (List Int)) → (List Int) → Unit → Int → Int → Int → ((List (List Int)) → (List Int) → Unit → Int → Int → Option (Int × Bool)) → Option (Int × Bool)
  | 0, _, _, _, _, _, _, _ => none
  | n + 1, x0, target1, cmp2, n8, i9, j10, e_0 => (if (decide (i9 < j10)) = true then (if 0 ≤ (w_i64 ((Int.fdiv (w_u64 ((w_i64 (i9 + j10)))) (2 ^ 1)))) then (x0[(w_i64 ((Int.fdiv (w_u64 ((w_i64 (i9 + j10)))) (2 ^ 1)))).toNat]?).bind fun y_1 => (impl_compareSimplices k y_1 target1).bind fun r_2 => (if (decide (r_2 < 0)) = true then slices_BinarySearchFunc_int64__impl_compareSimplices_l0 k n x0 target1 cmp2 n8 (w_i64 ((w_i64 ((Int.fdiv (w_u64 ((w_i64 (i9 + j10)))) (2 ^ 1)))) + 1)) j10 e_0 else slices_BinarySearchFunc_int64__impl_compareSimplices_l0 k n x0 target1 cmp2 n8 i9 (w_i64 ((Int.fdiv (w_u64 ((w_i64 (i9 + j10)))) (2 ^ 1)))) e_0) else none) else e_0 x0 target1 cmp2 n8 i9)
def slices_BinarySearchFunc_int64__impl_compareSimplices (k : Nat) (x0 : List (List Int)) (target1 : List Int) (cmp2 : Unit) : Option (Int × Bool) := slices_BinarySearchFunc_int64__impl_compareSimplices_l0 k k x0 target1 cmp2 (List.length x0 : Int) 0 (List.length x0 : Int) (fun x_3 target_4 cmp_5 n_6 i_7 => (if (decide (i_7 < n_6)) = true then (if 0 ≤ i_7 then (x_3[i_7.toNat]?).bind fun y_8 => (impl_compareSimplices k y_8 target_4).bind fun r_9 => some (i_7, (decide (r_9 = 0))) else none) else some (i_7, false)))
def slices_BinarySearchFunc_int64__impl_compareSimplices_l0_h : Head := ⟨[(0, (.val (.sl 43 (.sl 2 (.int .i64))))), (1, (.val (.sl 2 (.int .i64)))), (2, (.val (.fn 35 .un))), (8, (.val (.int .i64))), (9, (.val (.int .i64))), (10, (.val (.int .i64)))], [], []⟩
def slices_BinarySearchFunc_int64__impl_compareSimplices_l0_x0 : Head := ⟨[(0, (.val (.sl 43 (.sl 2 (.int .i64))))), (1, (.val (.sl 2 (.int .i64)))), (2, (.val (.fn 35 .un))), (8, (.val (.int .i64))), (9, (.val (.int .i64)))], [], []⟩
def slices_BinarySearchFunc_int64__impl_compareSimplices_l0_F (k n : Nat) (x : slices_BinarySearchFunc_int64__impl_compareSimplices_l0_h.T) (kx : Nat → St → Option (Int × Bool)) : Option (Int × Bool) := slices_BinarySearchFunc_int64__impl_compareSimplices_l0 k n x.1.1 x.1.2.1 x.1.2.2.1 x.1.2.2.2.1 x.1.2.2.2.2.1 x.1.2.2.2.2.2.1 (fun (x0 : List (List Int)) (target1 : List Int) (cmp2 : Unit) (n8 : Int) (i9 : Int) => kx 0 (slices_BinarySearchFunc_int64__impl_compareSimplices_l0_x0.fill ((x0, target1, cmp2, n8, i9, ()), (), ())))
def slices_BinarySearchFunc_int64__impl_compareSimplices_O (k : Nat) : Oracles (Int × Bool) := ⟨fun n => bif Nat.beq n 3 then some (fun σ kx => slices_BinarySearchFunc_int64__impl_compareSimplices_l0_h.get σ fun x => slices_BinarySearchFunc_int64__impl_compareSimplices_l0_F k k x kx) else none, fun _ => none⟩
def fe_slices_BinarySearchFunc_int64__impl_compareSimplices (k : Nat) : FE := ⟨(.pr (.sl 43 (.sl 2 (.int .i64))) (.pr (.sl 2 (.int .i64)) (.fn 35 .un))), 2, (.pr (.int .i64) .bool), fun x => slices_BinarySearchFunc_int64__impl_compareSimplices k x.1 x.2.1 x.2.2⟩
theorem slices_BinarySearchFunc_int64__impl_compareSimplices_l0_ok (k : Nat) : LoopOK (mkEnv ti [(35, fe_impl_compareSimplices k)] (lk []) pins0 pinB0) (slices_BinarySearchFunc_int64__impl_compareSimplices_O k) (rdC (mkEnv ti [(35, fe_impl_compareSimplices k)] (lk []) pins0 pinB0) [.tmp 6, .tmp 7] (.pr (.int .i64) .bool)) ((loopsOf (codeOf Try.f64)).getD 0 .skip) (fun σ kx => slices_BinarySearchFunc_int64__impl_compareSimplices_l0_h.get σ fun x => slices_BinarySearchFunc_int64__impl_compareSimplices_l0_F k k x kx) := by
  refine ⟨slices_BinarySearchFunc_int64__impl_compareSimplices_l0_h, [(0, slices_BinarySearchFunc_int64__impl_compareSimplices_l0_x0)], fun n x kx => slices_BinarySearchFunc_int64__impl_compareSimplices_l0_F k n x kx, k, by kernel_rfl, by kernel_rfl, fun x kx => by kernel_rfl, ?_, fun σ kx => rfl⟩
  rintro n ⟨⟨x0, target1, cmp2, n8, i9, j10, ⟨⟩⟩, ⟨⟩, ⟨⟩⟩ kx
  kernel_rfl
theorem ok_slices_BinarySearchFunc_int64__impl_compareSimplices (k : Nat) : FnOK Try.prog 64 (fe_slices_BinarySearchFunc_int64__impl_compareSimplices k) := by
  refine closed_ok (tab := [(35, fe_impl_compareSimplices k)]) (l := []) ti_ok ti_ht mix (List.forall_mem_cons.2 ⟨ok_impl_compareSimplices k, (List.forall_mem_nil _)⟩) (List.forall_mem_nil _) ⟨⟨Try.f64, (codeOf Try.f64), [.tmp 6, .tmp 7], (slices_BinarySearchFunc_int64__impl_compareSimplices_O k), by kernel_rfl, by kernel_rfl, by kernel_rfl, by kernel_rfl, rfl, by decide, ⟨by kernel_rfl, ?_, ?_⟩, ?_⟩⟩
  · refine loops_of (n := 1) (by kernel_rfl) fun i hi => ?_
    match i, hi with
    | 0, _ => exact loop_of (by kernel_rfl) (slices_BinarySearchFunc_int64__impl_compareSimplices_l0_ok k)
    | n + 1, hi => omega
  · exact no_cuts (by kernel_rfl)
  · rintro ⟨x0, target1, cmp2⟩
    kernel_rfl
/- 39 loop.example/g01005/impl.indexOf -/
def impl_indexOf (k : Nat) (c0 : List (List Int)) (s1 : List Int) : Option Int := (slices_BinarySearchFunc_int64__impl_compareSimplices k c0 s1 ()).bind fun r_1 => (if (!r_1.2) = true then some (-1) else some r_1.1)
def fe_impl_indexOf (k : Nat) : FE := ⟨(.pr (.st (.sl 43 (.sl 2 (.int .i64)))) (.sl 2 (.int .i64))), 1, (.int .i64), fun x => impl_indexOf k x.1 x.2⟩
theorem ok_impl_indexOf (k : Nat) : FnOK Try.prog 39 (fe_impl_indexOf k) := by
  refine closed_ok (tab := [(64, fe_slices_BinarySearchFunc_int64__impl_compareSimplices k)]) (l := []) ti_ok ti_ht mix (List.forall_mem_cons.2 ⟨ok_slices_BinarySearchFunc_int64__impl_compareSimplices k, (List.forall_mem_nil _)⟩) (List.forall_mem_nil _) ⟨⟨Try.f39, (codeOf Try.f39), [.tmp 4], (LOn Int), by kernel_rfl, by kernel_rfl, by kernel_rfl, by kernel_rfl, rfl, by decide, ⟨by kernel_rfl, ?_, ?_⟩, ?_⟩⟩
  · exact no_loops (by kernel_rfl)
  · exact no_cuts (by kernel_rfl)
  · rintro ⟨c0, s1⟩
    kernel_rfl
/- 38 loop.example/g01005/impl.ValidComplex$1 -/
def impl_ValidComplex_1 (k : Nat) (f0 : List Int) (x1 : List (List Int)) (x2 : Int) : Option Bool := (if 0 ≤ (0 : Int) ∧ (0 : Int) ≤ x2 ∧ x2 ≤ x1.length then (impl_indexOf k (x1.take x2.toNat) f0).bind fun r_1 => some (decide (r_1 < 0)) else none)
def fe_impl_ValidComplex_1 (k : Nat) : FE := ⟨(.pr (.sl 2 (.int .i64)) (.pr (.ptr (.st (.sl 43 (.sl 2 (.int .i64))))) (.ptr (.int .i64)))), 1, .bool, fun x => impl_ValidComplex_1 k x.1 x.2.1 x.2.2⟩
theorem ok_impl_ValidComplex_1 (k : Nat) : FnOK Try.prog 38 (fe_impl_ValidComplex_1 k) := by
  refine closed_ok (tab := [(39, fe_impl_indexOf k)]) (l := []) ti_ok ti_ht mix (List.forall_mem_cons.2 ⟨ok_impl_indexOf k, (List.forall_mem_nil _)⟩) (List.forall_mem_nil _) ⟨⟨Try.f38, (codeOf Try.f38), [.tmp 4], (LOn Bool), by kernel_rfl, by kernel_rfl, by kernel_rfl, by kernel_rfl, rfl, by decide, ⟨by kernel_rfl, ?_, ?_⟩, ?_⟩⟩
  · exact no_loops (by kernel_rfl)
  · exact no_cuts (by kernel_rfl)
  · rintro ⟨f0, x1, x2⟩
    kernel_rfl
/- 62 slices.IndexFunc[[][]int64,[]int64] -/
def slices_IndexFunc_int64__impl_ValidComplex_1_l0 (k : Nat) : Nat → (List (List Int)) → (List (List Int) × Int) → Int → Int → (Option Int) → Option Int
  | 0, _, _, _, _, _ => none
  | n + 1, s0, f1, x7, x8, e_0 => (if (decide (x8 < x7)) = true then (if 0 ≤ x8 then (s0[x8.toNat]?).bind fun y_1 => (impl_ValidComplex_1 k y_1 f1.1 f1.2).bind fun r_2 => (if r_2 = true then some x8 else slices_IndexFunc_int64__impl_ValidComplex_1_l0 k n s0 f1 x7 (w_i64 (x8 + 1)) e_0) else none) else e_0)
def slices_IndexFunc_int64__impl_ValidComplex_1 (k : Nat) (s0 : List (List Int)) (f1 : List (List Int) × Int) : Option Int := slices_IndexFunc_int64__impl_ValidComplex_1_l0 k k s0 f1 (List.length s0 : Int) 0 (some (-1))
def slices_IndexFunc_int64__impl_ValidComplex_1_l0_h : Head := ⟨[(0, (.val (.sl 43 (.sl 2 (.int .i64))))), (1, (.val (.fn 38 (.pr (.ptr (.st (.sl 43 (.sl 2 (.int .i64))))) (.ptr (.int .i64)))))), (7, (.val (.int .i64))), (8, (.val (.int .i64)))], [], []⟩
def slices_IndexFunc_int64__impl_ValidComplex_1_l0_x0 : Head := ⟨[], [], []⟩
def slices_IndexFunc_int64__impl_ValidComplex_1_l0_F (k n : Nat) (x : slices_IndexFunc_int64__impl_ValidComplex_1_l0_h.T) (kx : Nat → St → Option Int) : Option Int := slices_IndexFunc_int64__impl_ValidComplex_1_l0 k n x.1.1 x.1.2.1 x.1.2.2.1 x.1.2.2.2.1 (kx 0 (slices_IndexFunc_int64__impl_ValidComplex_1_l0_x0.fill ((), (), ())))
def slices_IndexFunc_int64__impl_ValidComplex_1_O (k : Nat) : Oracles Int := ⟨fun n => bif Nat.beq n 2 then some (fun σ kx => slices_IndexFunc_int64__impl_ValidComplex_1_l0_h.get σ fun x => slices_IndexFunc_int64__impl_ValidComplex_1_l0_F k k x kx) else none, fun _ => none⟩
def fe_slices_IndexFunc_int64__impl_ValidComplex_1 (k : Nat) : FE := ⟨(.pr (.sl 43 (.sl 2 (.int .i64))) (.fn 38 (.pr (.ptr (.st (.sl 43 (.sl 2 (.int .i64))))) (.ptr (.int .i64))))), 1, (.int .i64), fun x => slices_IndexFunc_int64__impl_ValidComplex_1 k x.1 x.2⟩
theorem slices_IndexFunc_int64__impl_ValidComplex_1_l0_ok (k : Nat) : LoopOK (mkEnv ti [(38, fe_impl_ValidComplex_1 k)] (lk []) pins0 pinB0) (slices_IndexFunc_int64__impl_ValidComplex_1_O k) (rdC (mkEnv ti [(38, fe_impl_ValidComplex_1 k)] (lk []) pins0 pinB0) [.tmp 4] (.int .i64)) ((loopsOf (codeOf Try.f62)).getD 0 .skip) (fun σ kx => slices_IndexFunc_int64__impl_ValidComplex_1_l0_h.get σ fun x => slices_IndexFunc_int64__impl_ValidComplex_1_l0_F k k x kx) := by
  refine ⟨slices_IndexFunc_int64__impl_ValidComplex_1_l0_h, [(0, slices_IndexFunc_int64__impl_ValidComplex_1_l0_x0)], fun n x kx => slices_IndexFunc_int64__impl_ValidComplex_1_l0_F k n x kx, k, by kernel_rfl, by kernel_rfl, fun x kx => by kernel_rfl, ?_, fun σ kx => rfl⟩
  rintro n ⟨⟨s0, f1, x7, x8, ⟨⟩⟩, ⟨⟩, ⟨⟩⟩ kx
  kernel_rfl
theorem ok_slices_IndexFunc_int64__impl_ValidComplex_1 (k : Nat) : FnOK Try.prog 62 (fe_slices_IndexFunc_int64__impl_ValidComplex_1 k) := by
  refine closed_ok (tab := [(38, fe_impl_ValidComplex_1 k)]) (l := []) ti_ok ti_ht mix (List.forall_mem_cons.2 ⟨ok_impl_ValidComplex_1 k, (List.forall_mem_nil _)⟩) (List.forall_mem_nil _) ⟨⟨Try.f62, (codeOf Try.f62), [.tmp 4], (slices_IndexFunc_int64__impl_ValidComplex_1_O k), by kernel_rfl, by kernel_rfl, by kernel_rfl, by kernel_rfl, rfl, by decide, ⟨by kernel_rfl, ?_, ?_⟩, ?_⟩⟩
  · refine loops_of (n := 1) (by kernel_rfl) fun i hi => ?_
    match i, hi with
    | 0, _ => exact loop_of (by kernel_rfl) (slices_IndexFunc_int64__impl_ValidComplex_1_l0_ok k)
    | n + 1, hi => omega
  · exact no_cuts (by kernel_rfl)
  · rintro ⟨s0, f1⟩
    kernel_rfl
/- 36 slices.ContainsFunc[[][]int64,[]int64] -/
def slices_ContainsFunc_int64__impl_ValidComplex_1 (k : Nat) (s0 : List (List Int)) (f1 : List (List Int) × Int) : Option Bool := (slices_IndexFunc_int64__impl_ValidComplex_1 k s0 f1).bind fun r_1 => some (decide (0 ≤ r_1))
def fe_slices_ContainsFunc_int64__impl_ValidComplex_1 (k : Nat) : FE := ⟨(.pr (.sl 43 (.sl 2 (.int .i64))) (.fn 38 (.pr (.ptr (.st (.sl 43 (.sl 2 (.int .i64))))) (.ptr (.int .i64))))), 1, .bool, fun x => slices_ContainsFunc_int64__impl_ValidComplex_1 k x.1 x.2⟩
theorem ok_slices_ContainsFunc_int64__impl_ValidComplex_1 (k : Nat) : FnOK Try.prog 36 (fe_slices_ContainsFunc_int64__impl_ValidComplex_1 k) := by
  refine closed_ok (tab := [(62, fe_slices_IndexFunc_int64__impl_ValidComplex_1 k)]) (l := []) ti_ok ti_ht mix (List.forall_mem_cons.2 ⟨ok_slices_IndexFunc_int64__impl_ValidComplex_1 k, (List.forall_mem_nil _)⟩) (List.forall_mem_nil _) ⟨⟨Try.f36, (codeOf Try.f36), [.tmp 4], (LOn Bool), by kernel_rfl, by kernel_rfl, by kernel_rfl, by kernel_rfl, rfl, by decide, ⟨by kernel_rfl, ?_, ?_⟩, ?_⟩⟩
  · exact no_loops (by kernel_rfl)
  · exact no_cuts (by kernel_rfl)
  · rintro ⟨s0, f1⟩
    kernel_rfl
/- 18 loop.example/g01005/impl.ValidComplex -/
def impl_ValidComplex_l0 (k : Nat) : Nat → (List (List Int)) → Int → Int → (List (List Int)) → ((List (List Int)) → Option Bool) → Option Bool
  | 0, _, _, _, _, _ => none
  | n + 1, x6, x7, x8, v_1, e_0 => (if (decide (x8 < x7)) = true then (if 0 ≤ x8 then (x6[x8.toNat]?).bind fun y_1 => (impl_ValidSimplex k y_1).bind fun r_2 => (if (!r_2) = true then some false else (if (decide (0 < x8)) = true then (if 0 ≤ (w_i64 (x8 - 1)) then (v_1[(w_i64 (x8 - 1)).toNat]?).bind fun y_3 => (impl_compareSimplices k y_3 y_1).bind fun r_4 => (if (decide (0 ≤ r_4)) = true then some false else (impl_facesOf k y_1).bind fun r_5 => (slices_ContainsFunc_int64__impl_ValidComplex_1 k r_5 (v_1, x8)).bind fun r_6 => (if r_6 = true then some false else impl_ValidComplex_l0 k n x6 x7 (w_i64 (x8 + 1)) v_1 e_0)) else none) else (impl_facesOf k y_1).bind fun r_7 => (slices_ContainsFunc_int64__impl_ValidComplex_1 k r_7 (v_1, x8)).bind fun r_8 => (if r_8 = true then some false else impl_ValidComplex_l0 k n x6 x7 (w_i64 (x8 + 1)) v_1 e_0))) else none) else e_0 v_1)
def impl_ValidComplex (k : Nat) (c0 : List (List Int)) : Option Bool := impl_ValidComplex_l0 k k c0 (List.length c0 : Int) 0 c0 (fun v_9 => some (decide ((List.length v_9 : Int) ≤ 48)))
def impl_ValidComplex_l0_h : Head := ⟨[(1, (.bp 1 [] 0)), (6, (.val (.sl 43 (.sl 2 (.int .i64))))), (7, (.val (.int .i64))), (8, (.val (.int .i64)))], [], [(1, 29, (.val (.st (.sl 43 (.sl 2 (.int .i64))))))]⟩
def impl_ValidComplex_l0_x0 : Head := ⟨[(1, (.bp 1 [] 0))], [], [(1, 29, (.val (.st (.sl 43 (.sl 2 (.int .i64))))))]⟩
def impl_ValidComplex_l0_F (k n : Nat) (x : impl_ValidComplex_l0_h.T) (kx : Nat → St → Option Bool) : Option Bool := impl_ValidComplex_l0 k n x.1.2.1 x.1.2.2.1 x.1.2.2.2.1 x.2.2.1 (fun (v_1 : List (List Int)) => kx 0 (impl_ValidComplex_l0_x0.fill (((), ()), (), (v_1, ()))))
def impl_ValidComplex_O (k : Nat) : Oracles Bool := ⟨fun n => bif Nat.beq n 2 then some (fun σ kx => impl_ValidComplex_l0_h.get σ fun x => impl_ValidComplex_l0_F k k x kx) else none, fun _ => none⟩
def fe_impl_ValidComplex (k : Nat) : FE := ⟨(.st (.sl 43 (.sl 2 (.int .i64)))), 1, .bool, fun x => impl_ValidComplex k x⟩
theorem impl_ValidComplex_l0_ok (k : Nat) : LoopOK (mkEnv ti [(34, fe_impl_ValidSimplex k), (35, fe_impl_compareSimplices k), (37, fe_impl_facesOf k), (36, fe_slices_ContainsFunc_int64__impl_ValidComplex_1 k)] (lk []) pins0 pinB0) (impl_ValidComplex_O k) (rdC (mkEnv ti [(34, fe_impl_ValidSimplex k), (35, fe_impl_compareSimplices k), (37, fe_impl_facesOf k), (36, fe_slices_ContainsFunc_int64__impl_ValidComplex_1 k)] (lk []) pins0 pinB0) [.tmp 2] .bool) ((loopsOf (codeOf Try.f18)).getD 0 .skip) (fun σ kx => impl_ValidComplex_l0_h.get σ fun x => impl_ValidComplex_l0_F k k x kx) := by
  refine ⟨impl_ValidComplex_l0_h, [(0, impl_ValidComplex_l0_x0)], fun n x kx => impl_ValidComplex_l0_F k n x kx, k, by kernel_rfl, by kernel_rfl, fun x kx => by kernel_rfl, ?_, fun σ kx => rfl⟩
  rintro n ⟨⟨⟨⟩, x6, x7, x8, ⟨⟩⟩, ⟨⟩, ⟨v_1, ⟨⟩⟩⟩ kx
  kernel_rfl
theorem ok_impl_ValidComplex (k : Nat) : FnOK Try.prog 18 (fe_impl_ValidComplex k) := by
  refine closed_ok (tab := [(34, fe_impl_ValidSimplex k), (35, fe_impl_compareSimplices k), (37, fe_impl_facesOf k), (36, fe_slices_ContainsFunc_int64__impl_ValidComplex_1 k)]) (l := []) ti_ok ti_ht mix (List.forall_mem_cons.2 ⟨ok_impl_ValidSimplex k, (List.forall_mem_cons.2 ⟨ok_impl_compareSimplices k, (List.forall_mem_cons.2 ⟨ok_impl_facesOf k, (List.forall_mem_cons.2 ⟨ok_slices_ContainsFunc_int64__impl_ValidComplex_1 k, (List.forall_mem_nil _)⟩)⟩)⟩)⟩) (List.forall_mem_nil _) ⟨⟨Try.f18, (codeOf Try.f18), [.tmp 2], (impl_ValidComplex_O k), by kernel_rfl, by kernel_rfl, by kernel_rfl, by kernel_rfl, rfl, by decide, ⟨by kernel_rfl, ?_, ?_⟩, ?_⟩⟩
  · refine loops_of (n := 1) (by kernel_rfl) fun i hi => ?_
    match i, hi with
    | 0, _ => exact loop_of (by kernel_rfl) (impl_ValidComplex_l0_ok k)
    | n + 1, hi => omega
  · exact no_cuts (by kernel_rfl)
  · rintro c0
    kernel_rfl
/- 40 loop.example/g01005/impl.size[[]int64] -/
def impl_size_int64 (list0 : List (List Int)) : Option Int := some (List.length list0 : Int)
def fe_impl_size_int64 : FE := ⟨(.sl 43 (.sl 2 (.int .i64))), 1, (.int .i64), fun x => impl_size_int64 x⟩
theorem ok_impl_size_int64 : FnOK Try.prog 40 (fe_impl_size_int64) := by
  refine closed_ok (tab := []) (l := []) ti_ok ti_ht mix (List.forall_mem_nil _) (List.forall_mem_nil _) ⟨⟨Try.f40, (codeOf Try.f40), [.tmp 2], (LOn Int), by kernel_rfl, by kernel_rfl, by kernel_rfl, by kernel_rfl, rfl, by decide, ⟨by kernel_rfl, ?_, ?_⟩, ?_⟩⟩
  · exact no_loops (by kernel_rfl)
  · exact no_cuts (by kernel_rfl)
  · rintro list0
    kernel_rfl
/- 82 slices.Index[[]int64,int64] -/
def slices_Index_int64_l0 (k : Nat) : Nat → (List Int) → Int → Int → Int → (Option Int) → Option Int
  | 0, _, _, _, _, _ => none
  | n + 1, s0, v1, x7, x8, e_0 => (if (decide (x8 < x7)) = true then (if 0 ≤ x8 then (s0[x8.toNat]?).bind fun y_1 => (if (decide (v1 = y_1)) = true then some x8 else slices_Index_int64_l0 k n s0 v1 x7 (w_i64 (x8 + 1)) e_0) else none) else e_0)
def slices_Index_int64 (k : Nat) (s0 : List Int) (v1 : Int) : Option Int := slices_Index_int64_l0 k k s0 v1 (List.length s0 : Int) 0 (some (-1))
def slices_Index_int64_l0_h : Head := ⟨[(0, (.val (.sl 2 (.int .i64)))), (1, (.val (.int .i64))), (7, (.val (.int .i64))), (8, (.val (.int .i64)))], [], []⟩
def slices_Index_int64_l0_x0 : Head := ⟨[], [], []⟩
def slices_Index_int64_l0_F (k n : Nat) (x : slices_Index_int64_l0_h.T) (kx : Nat → St → Option Int) : Option Int := slices_Index_int64_l0 k n x.1.1 x.1.2.1 x.1.2.2.1 x.1.2.2.2.1 (kx 0 (slices_Index_int64_l0_x0.fill ((), (), ())))
def slices_Index_int64_O (k : Nat) : Oracles Int := ⟨fun n => bif Nat.beq n 2 then some (fun σ kx => slices_Index_int64_l0_h.get σ fun x => slices_Index_int64_l0_F k k x kx) else none, fun _ => none⟩
def fe_slices_Index_int64 (k : Nat) : FE := ⟨(.pr (.sl 2 (.int .i64)) (.int .i64)), 1, (.int .i64), fun x => slices_Index_int64 k x.1 x.2⟩
theorem slices_Index_int64_l0_ok (k : Nat) : LoopOK (mkEnv ti [] (lk []) pins0 pinB0) (slices_Index_int64_O k) (rdC (mkEnv ti [] (lk []) pins0 pinB0) [.tmp 4] (.int .i64)) ((loopsOf (codeOf Try.f82)).getD 0 .skip) (fun σ kx => slices_Index_int64_l0_h.get σ fun x => slices_Index_int64_l0_F k k x kx) := by
  refine ⟨slices_Index_int64_l0_h, [(0, slices_Index_int64_l0_x0)], fun n x kx => slices_Index_int64_l0_F k n x kx, k, by kernel_rfl, by kernel_rfl, fun x kx => by kernel_rfl, ?_, fun σ kx => rfl⟩
  rintro n ⟨⟨s0, v1, x7, x8, ⟨⟩⟩, ⟨⟩, ⟨⟩⟩ kx
  kernel_rfl
theorem ok_slices_Index_int64 (k : Nat) : FnOK Try.prog 82 (fe_slices_Index_int64 k) := by
  refine closed_ok (tab := []) (l := []) ti_ok ti_ht mix (List.forall_mem_nil _) (List.forall_mem_nil _) ⟨⟨Try.f82, (codeOf Try.f82), [.tmp 4], (slices_Index_int64_O k), by kernel_rfl, by kernel_rfl, by kernel_rfl, by kernel_rfl, rfl, by decide, ⟨by kernel_rfl, ?_, ?_⟩, ?_⟩⟩
  · refine loops_of (n := 1) (by kernel_rfl) fun i hi => ?_
    match i, hi with
    | 0, _ => exact loop_of (by kernel_rfl) (slices_Index_int64_l0_ok k)
    | n + 1, hi => omega
  · exact no_cuts (by kernel_rfl)
  · rintro ⟨s0, v1⟩
    kernel_rfl
/- 78 slices.Contains[[]int64,int64] -/
def slices_Contains_int64 (k : Nat) (s0 : List Int) (v1 : Int) : Option Bool := (slices_Index_int64 k s0 v1).bind fun r_1 => some (decide (0 ≤ r_1))
def fe_slices_Contains_int64 (k : Nat) : FE := ⟨(.pr (.sl 2 (.int .i64)) (.int .i64)), 1, .bool, fun x => slices_Contains_int64 k x.1 x.2⟩
theorem ok_slices_Contains_int64 (k : Nat) : FnOK Try.prog 78 (fe_slices_Contains_int64 k) := by
  refine closed_ok (tab := [(82, fe_slices_Index_int64 k)]) (l := []) ti_ok ti_ht mix (List.forall_mem_cons.2 ⟨ok_slices_Index_int64 k, (List.forall_mem_nil _)⟩) (List.forall_mem_nil _) ⟨⟨Try.f78, (codeOf Try.f78), [.tmp 4], (LOn Bool), by kernel_rfl, by kernel_rfl, by kernel_rfl, by kernel_rfl, rfl, by decide, ⟨by kernel_rfl, ?_, ?_⟩, ?_⟩⟩
  · exact no_loops (by kernel_rfl)
  · exact no_cuts (by kernel_rfl)
  · rintro ⟨s0, v1⟩
    kernel_rfl
/- 77 loop.example/g01005/impl.isFace$1 -/
def impl_isFace_1 (k : Nat) (v0 : Int) (x1 : List Int) : Option Bool := (slices_Contains_int64 k x1 v0).bind fun r_1 => some (!r_1)
def fe_impl_isFace_1 (k : Nat) : FE := ⟨(.pr (.int .i64) (.ptr (.sl 2 (.int .i64)))), 1, .bool, fun x => impl_isFace_1 k x.1 x.2⟩
theorem ok_impl_isFace_1 (k : Nat) : FnOK Try.prog 77 (fe_impl_isFace_1 k) := by
  refine closed_ok (tab := [(78, fe_slices_Contains_int64 k)]) (l := []) ti_ok ti_ht mix (List.forall_mem_cons.2 ⟨ok_slices_Contains_int64 k, (List.forall_mem_nil _)⟩) (List.forall_mem_nil _) ⟨⟨Try.f77, (codeOf Try.f77), [.tmp 3], (LOn Bool), by kernel_rfl, by kernel_rfl, by kernel_rfl, by kernel_rfl, rfl, by decide, ⟨by kernel_rfl, ?_, ?_⟩, ?_⟩⟩
  · exact no_loops (by kernel_rfl)
  · exact no_cuts (by kernel_rfl)
  · rintro ⟨v0, x1⟩
    kernel_rfl
/- 72 slices.IndexFunc[[]int64,int64] -/
def slices_IndexFunc_int64__impl_isFace_1_l0 (k : Nat) : Nat → (List Int) → (List Int) → Int → Int → (Option Int) → Option Int
  | 0, _, _, _, _, _ => none
  | n + 1, s0, f1, x7, x8, e_0 => (if (decide (x8 < x7)) = true then (if 0 ≤ x8 then (s0[x8.toNat]?).bind fun y_1 => (impl_isFace_1 k y_1 f1).bind fun r_2 => (if r_2 = true then some x8 else slices_IndexFunc_int64__impl_isFace_1_l0 k n s0 f1 x7 (w_i64 (x8 + 1)) e_0) else none) else e_0)
def slices_IndexFunc_int64__impl_isFace_1 (k : Nat) (s0 : List Int) (f1 : List Int) : Option Int := slices_IndexFunc_int64__impl_isFace_1_l0 k k s0 f1 (List.length s0 : Int) 0 (some (-1))
def slices_IndexFunc_int64__impl_isFace_1_l0_h : Head := ⟨[(0, (.val (.sl 2 (.int .i64)))), (1, (.val (.fn 77 (.ptr (.sl 2 (.int .i64)))))), (7, (.val (.int .i64))), (8, (.val (.int .i64)))], [], []⟩
def slices_IndexFunc_int64__impl_isFace_1_l0_x0 : Head := ⟨[], [], []⟩
def slices_IndexFunc_int64__impl_isFace_1_l0_F (k n : Nat) (x : slices_IndexFunc_int64__impl_isFace_1_l0_h.T) (kx : Nat → St → Option Int) : Option Int := slices_IndexFunc_int64__impl_isFace_1_l0 k n x.1.1 x.1.2.1 x.1.2.2.1 x.1.2.2.2.1 (kx 0 (slices_IndexFunc_int64__impl_isFace_1_l0_x0.fill ((), (), ())))
def slices_IndexFunc_int64__impl_isFace_1_O (k : Nat) : Oracles Int := ⟨fun n => bif Nat.beq n 2 then some (fun σ kx => slices_IndexFunc_int64__impl_isFace_1_l0_h.get σ fun x => slices_IndexFunc_int64__impl_isFace_1_l0_F k k x kx) else none, fun _ => none⟩
def fe_slices_IndexFunc_int64__impl_isFace_1 (k : Nat) : FE := ⟨(.pr (.sl 2 (.int .i64)) (.fn 77 (.ptr (.sl 2 (.int .i64))))), 1, (.int .i64), fun x => slices_IndexFunc_int64__impl_isFace_1 k x.1 x.2⟩
theorem slices_IndexFunc_int64__impl_isFace_1_l0_ok (k : Nat) : LoopOK (mkEnv ti [(77, fe_impl_isFace_1 k)] (lk []) pins0 pinB0) (slices_IndexFunc_int64__impl_isFace_1_O k) (rdC (mkEnv ti [(77, fe_impl_isFace_1 k)] (lk []) pins0 pinB0) [.tmp 4] (.int .i64)) ((loopsOf (codeOf Try.f72)).getD 0 .skip) (fun σ kx => slices_IndexFunc_int64__impl_isFace_1_l0_h.get σ fun x => slices_IndexFunc_int64__impl_isFace_1_l0_F k k x kx) := by
  refine ⟨slices_IndexFunc_int64__impl_isFace_1_l0_h, [(0, slices_IndexFunc_int64__impl_isFace_1_l0_x0)], fun n x kx => slices_IndexFunc_int64__impl_isFace_1_l0_F k n x kx, k, by kernel_rfl, by kernel_rfl, fun x kx => by kernel_rfl, ?_, fun σ kx => rfl⟩
  rintro n ⟨⟨s0, f1, x7, x8, ⟨⟩⟩, ⟨⟩, ⟨⟩⟩ kx
  kernel_rfl
theorem ok_slices_IndexFunc_int64__impl_isFace_1 (k : Nat) : FnOK Try.prog 72 (fe_slices_IndexFunc_int64__impl_isFace_1 k) := by
  refine closed_ok (tab := [(77, fe_impl_isFace_1 k)]) (l := []) ti_ok ti_ht mix (List.forall_mem_cons.2 ⟨ok_impl_isFace_1 k, (List.forall_mem_nil _)⟩) (List.forall_mem_nil _) ⟨⟨Try.f72, (codeOf Try.f72), [.tmp 4], (slices_IndexFunc_int64__impl_isFace_1_O k), by kernel_rfl, by kernel_rfl, by kernel_rfl, by kernel_rfl, rfl, by decide, ⟨by kernel_rfl, ?_, ?_⟩, ?_⟩⟩
  · refine loops_of (n := 1) (by kernel_rfl) fun i hi => ?_
    match i, hi with
    | 0, _ => exact loop_of (by kernel_rfl) (slices_IndexFunc_int64__impl_isFace_1_l0_ok k)
    | n + 1, hi => omega
  · exact no_cuts (by kernel_rfl)
  · rintro ⟨s0, f1⟩
    kernel_rfl
/- 56 slices.ContainsFunc[[]int64,int64] -/
def slices_ContainsFunc_int64__impl_isFace_1 (k : Nat) (s0 : List Int) (f1 : List Int) : Option Bool := (slices_IndexFunc_int64__impl_isFace_1 k s0 f1).bind fun r_1 => some (decide (0 ≤ r_1))
def fe_slices_ContainsFunc_int64__impl_isFace_1 (k : Nat) : FE := ⟨(.pr (.sl 2 (.int .i64)) (.fn 77 (.ptr (.sl 2 (.int .i64))))), 1, .bool, fun x => slices_ContainsFunc_int64__impl_isFace_1 k x.1 x.2⟩
theorem ok_slices_ContainsFunc_int64__impl_isFace_1 (k : Nat) : FnOK Try.prog 56 (fe_slices_ContainsFunc_int64__impl_isFace_1 k) := by
  refine closed_ok (tab := [(72, fe_slices_IndexFunc_int64__impl_isFace_1 k)]) (l := []) ti_ok ti_ht mix (List.forall_mem_cons.2 ⟨ok_slices_IndexFunc_int64__impl_isFace_1 k, (List.forall_mem_nil _)⟩) (List.forall_mem_nil _) ⟨⟨Try.f56, (codeOf Try.f56), [.tmp 4], (LOn Bool), by kernel_rfl, by kernel_rfl, by kernel_rfl, by kernel_rfl, rfl, by decide, ⟨by kernel_rfl, ?_, ?_⟩, ?_⟩⟩
  · exact no_loops (by kernel_rfl)
  · exact no_cuts (by kernel_rfl)
  · rintro ⟨s0, f1⟩
    kernel_rfl
/- 65 loop.example/g01005/impl.isFace -/
def impl_isFace (k : Nat) (face0 : List Int) (s1 : List Int) : Option Bool := (slices_ContainsFunc_int64__impl_isFace_1 k face0 s1).bind fun r_1 => some (!r_1)
def fe_impl_isFace (k : Nat) : FE := ⟨(.pr (.sl 2 (.int .i64)) (.sl 2 (.int .i64))), 1, .bool, fun x => impl_isFace k x.1 x.2⟩
theorem ok_impl_isFace (k : Nat) : FnOK Try.prog 65 (fe_impl_isFace k) := by
  refine closed_ok (tab := [(56, fe_slices_ContainsFunc_int64__impl_isFace_1 k)]) (l := []) ti_ok ti_ht mix (List.forall_mem_cons.2 ⟨ok_slices_ContainsFunc_int64__impl_isFace_1 k, (List.forall_mem_nil _)⟩) (List.forall_mem_nil _) ⟨⟨Try.f65, (codeOf Try.f65), [.tmp 4], (LOn Bool), by kernel_rfl, by kernel_rfl, by kernel_rfl, by kernel_rfl, rfl, by decide, ⟨by kernel_rfl, ?_, ?_⟩, ?_⟩⟩
  · exact no_loops (by kernel_rfl)
  · exact no_cuts (by kernel_rfl)
  · rintro ⟨face0, s1⟩
    kernel_rfl
/- 41 loop.example/g01005/impl.starOf -/
def impl_starOf_l0 (k : Nat) : Nat → Int → (List (List Int)) → Int → Int → (List Int) → (List (List Int)) → ((List Int) → Option (List Int)) → Option (List Int)
  | 0, _, _, _, _, _, _, _ => none
  | n + 1, k1, x9, x10, x11, q_1, v_2, e_0 => (if (decide (x11 < x10)) = true then (if 0 ≤ x11 then (x9[x11.toNat]?).bind fun y_2 => (if 0 ≤ k1 then (v_2[k1.toNat]?).bind fun y_3 => (impl_isFace k y_3 y_2).bind fun r_4 => (if r_4 = true then (if (q_1.length + [x11].length) * 8 ≤ LIM then impl_starOf_l0 k n k1 x9 x10 (w_i64 (x11 + 1)) (q_1 ++ [x11]) v_2 e_0 else none) else impl_starOf_l0 k n k1 x9 x10 (w_i64 (x11 + 1)) q_1 v_2 e_0) else none) else none) else e_0 q_1)
def impl_starOf (k : Nat) (c0 : List (List Int)) (k1 : Int) : Option (List Int) := impl_starOf_l0 k k k1 c0 (List.length c0 : Int) 0 [] c0 (fun q_5 => some q_5)
def impl_starOf_l0_h : Head := ⟨[(1, (.val (.int .i64))), (2, (.bp 2 [] 0)), (5, (.ref 64000000 [])), (9, (.val (.sl 43 (.sl 2 (.int .i64))))), (10, (.val (.int .i64))), (11, (.val (.int .i64)))], [(64000000, 2, (.int .i64), false)], [(2, 29, (.val (.st (.sl 43 (.sl 2 (.int .i64))))))]⟩
def impl_starOf_l0_x0 : Head := ⟨[(5, (.ref 64000000 []))], [(64000000, 2, (.int .i64), false)], []⟩
def impl_starOf_l0_F (k n : Nat) (x : impl_starOf_l0_h.T) (kx : Nat → St → Option (List Int)) : Option (List Int) := impl_starOf_l0 k n x.1.1 x.1.2.2.2.1 x.1.2.2.2.2.1 x.1.2.2.2.2.2.1 x.2.1.1 x.2.2.1 (fun (q_5 : List Int) => kx 0 (impl_starOf_l0_x0.fill (((), ()), (q_5, ()), ())))
def impl_starOf_O (k : Nat) : Oracles (List Int) := ⟨fun n => bif Nat.beq n 3 then some (fun σ kx => impl_starOf_l0_h.get σ fun x => impl_starOf_l0_F k k x kx) else none, fun _ => none⟩
def fe_impl_starOf (k : Nat) : FE := ⟨(.pr (.st (.sl 43 (.sl 2 (.int .i64)))) (.int .i64)), 1, (.sl 2 (.int .i64)), fun x => impl_starOf k x.1 x.2⟩
theorem impl_starOf_l0_ok (k : Nat) : LoopOK (mkEnv ti [(65, fe_impl_isFace k)] (lk []) pins0 pinB0) (impl_starOf_O k) (rdC (mkEnv ti [(65, fe_impl_isFace k)] (lk []) pins0 pinB0) [.tmp 4] (.sl 2 (.int .i64))) ((loopsOf (codeOf Try.f41)).getD 0 .skip) (fun σ kx => impl_starOf_l0_h.get σ fun x => impl_starOf_l0_F k k x kx) := by
  refine ⟨impl_starOf_l0_h, [(0, impl_starOf_l0_x0)], fun n x kx => impl_starOf_l0_F k n x kx, k, by kernel_rfl, by kernel_rfl, fun x kx => by kernel_rfl, ?_, fun σ kx => rfl⟩
  rintro n ⟨⟨k1, ⟨⟩, ⟨⟩, x9, x10, x11, ⟨⟩⟩, ⟨q_1, ⟨⟩⟩, ⟨v_2, ⟨⟩⟩⟩ kx
  kernel_rfl
theorem ok_impl_starOf (k : Nat) : FnOK Try.prog 41 (fe_impl_starOf k) := by
  refine closed_ok (tab := [(65, fe_impl_isFace k)]) (l := []) ti_ok ti_ht mix (List.forall_mem_cons.2 ⟨ok_impl_isFace k, (List.forall_mem_nil _)⟩) (List.forall_mem_nil _) ⟨⟨Try.f41, (codeOf Try.f41), [.tmp 4], (impl_starOf_O k), by kernel_rfl, by kernel_rfl, by kernel_rfl, by kernel_rfl, rfl, by decide, ⟨by kernel_rfl, ?_, ?_⟩, ?_⟩⟩
  · refine loops_of (n := 1) (by kernel_rfl) fun i hi => ?_
    match i, hi with
    | 0, _ => exact loop_of (by kernel_rfl) (impl_starOf_l0_ok k)
    | n + 1, hi => omega
  · exact no_cuts (by kernel_rfl)
  · rintro ⟨c0, k1⟩
    kernel_rfl
end
end Go.Proofs.Ytnlpjpfpjnmjmaa.Ev
