/- Functions of the program, as plain ones. No conditions. -/
import Derived.Test.YtgcndhlbhlnplaaG2
import Derived.KernelRfl
set_option linter.unusedVariables false
set_option maxRecDepth 100000
namespace Go.Proofs.Ytgcndhlbhlnplaa.Ev
open Go.RowKit
noncomputable section
/- 50 loop.example/g01005/impl.makeOrder -/
def impl_makeOrder_l0 (k : Nat) : Nat → (List (List UInt8 × List (List UInt8) × Int × Int)) → Int → Int → (List (List UInt8)) → ((List (List UInt8)) → Option (List (List UInt8))) → Option (List (List UInt8))
  | 0, _, _, _, _, _ => none
  | n + 1, list0, x6, x7, q_1, e_0 => (if (decide (x7 < x6)) = true then (slices_IndexFunc_impl_Item__impl_makeOrder_1 k list0 q_1).bind fun r_2 => (if (decide (r_2 < 0)) = true then e_0 q_1 else (if 0 ≤ r_2 then (list0[r_2.toNat]?).bind fun y_3 => (if (q_1.length + [y_3.1].length) * 16 ≤ LIM then impl_makeOrder_l0 k n list0 x6 (w_i64 (x7 + 1)) (q_1 ++ [y_3.1]) e_0 else none) else none)) else e_0 q_1)
def impl_makeOrder (k : Nat) (list0 : List (List UInt8 × List (List UInt8) × Int × Int)) : Option (List (List UInt8)) := impl_makeOrder_l0 k k list0 (List.length list0 : Int) 0 [] (fun q_4 => some q_4)
def impl_makeOrder_l0_h : Head := ⟨[(0, (.val (.sl 37 (.st (.pr .str (.pr (.sl 9 .str) (.pr (.int .i64) (.int .i64)))))))), (3, (.bp 3 [] 0)), (6, (.val (.int .i64))), (7, (.val (.int .i64)))], [(64000000, 9, .str, false)], [(3, 32, (.ref 64000000 []))]⟩
def impl_makeOrder_l0_x0 : Head := ⟨[(3, (.bp 3 [] 0))], [(64000000, 9, .str, false)], [(3, 32, (.ref 64000000 []))]⟩
def impl_makeOrder_l0_F (k n : Nat) (x : impl_makeOrder_l0_h.T) (kx : Nat → St → Option (List (List UInt8))) : Option (List (List UInt8)) := impl_makeOrder_l0 k n x.1.1 x.1.2.2.1 x.1.2.2.2.1 x.2.1.1 (fun (q_3 : List (List UInt8)) => kx 0 (impl_makeOrder_l0_x0.fill (((), ()), (q_3, ()), ((), ()))))
def impl_makeOrder_O (k : Nat) : Oracles (List (List UInt8)) := ⟨fun n => bif Nat.beq n 3 then some (fun σ kx => impl_makeOrder_l0_h.get σ fun x => impl_makeOrder_l0_F k k x kx) else none, fun _ => none⟩
def fe_impl_makeOrder (k : Nat) : FE := ⟨(.sl 37 (.st (.pr .str (.pr (.sl 9 .str) (.pr (.int .i64) (.int .i64)))))), 1, (.sl 9 .str), fun x => impl_makeOrder k x⟩
theorem impl_makeOrder_l0_ok (k : Nat) : LoopOK (mkEnv ti [(55, fe_slices_IndexFunc_impl_Item__impl_makeOrder_1 k)] (lk []) pins0 pinB0) (impl_makeOrder_O k) (rdC (mkEnv ti [(55, fe_slices_IndexFunc_impl_Item__impl_makeOrder_1 k)] (lk []) pins0 pinB0) [.tmp 2] (.sl 9 .str)) ((loopsOf (codeOf Try.f50)).getD 0 .skip) (fun σ kx => impl_makeOrder_l0_h.get σ fun x => impl_makeOrder_l0_F k k x kx) := by
  refine ⟨impl_makeOrder_l0_h, [(0, impl_makeOrder_l0_x0)], fun n x kx => impl_makeOrder_l0_F k n x kx, k, by kernel_rfl, by kernel_rfl, fun x kx => by kernel_rfl, ?_, fun σ kx => rfl⟩
  rintro n ⟨⟨list0, ⟨⟩, x6, x7, ⟨⟩⟩, ⟨q_1, ⟨⟩⟩, ⟨⟨⟩, ⟨⟩⟩⟩ kx
  kernel_rfl
theorem ok_impl_makeOrder (k : Nat) : FnOK Try.prog 50 (fe_impl_makeOrder k) := by
  refine closed_ok (tab := [(55, fe_slices_IndexFunc_impl_Item__impl_makeOrder_1 k)]) (l := []) ti_ok ti_ht mix (List.forall_mem_cons.2 ⟨ok_slices_IndexFunc_impl_Item__impl_makeOrder_1 k, (List.forall_mem_nil _)⟩) (List.forall_mem_nil _) ⟨⟨Try.f50, (codeOf Try.f50), [.tmp 2], (impl_makeOrder_O k), by kernel_rfl, by kernel_rfl, by kernel_rfl, by kernel_rfl, rfl, by decide, ⟨by kernel_rfl, ?_, ?_⟩, ?_⟩⟩
  · refine loops_of (n := 1) (by kernel_rfl) fun i hi => ?_
    match i, hi with
    | 0, _ => exact loop_of (by kernel_rfl) (impl_makeOrder_l0_ok k)
    | n + 1, hi => omega
  · exact no_cuts (by kernel_rfl)
  · rintro list0
    kernel_rfl
/- 39 loop.example/g01005/impl.ValidItems -/
def impl_ValidItems_l0 (k : Nat) : Nat → (List (List UInt8 × List (List UInt8) × Int × Int)) → (List (List UInt8 × List (List UInt8) × Int × Int)) → Int → Int → (List (List UInt8)) → ((List (List UInt8 × List (List UInt8) × Int × Int)) → (List (List UInt8)) → Option Bool) → Option Bool
  | 0, _, _, _, _, _, _ => none
  | n + 1, list0, x8, x9, x10, q_1, e_0 => (if (decide (x10 < x9)) = true then (if 0 ≤ x10 then (x8[x10.toNat]?).bind fun y_2 => (if (q_1.length + [y_2.1].length) * 16 ≤ LIM then impl_ValidItems_l0 k n list0 x8 x9 (w_i64 (x10 + 1)) (q_1 ++ [y_2.1]) e_0 else none) else none) else e_0 list0 q_1)
def impl_ValidItems_l1 (k : Nat) : Nat → (List (List UInt8 × List (List UInt8) × Int × Int)) → (List (List UInt8 × List (List UInt8) × Int × Int)) → Int → Int → (List (List UInt8)) → ((List (List UInt8 × List (List UInt8) × Int × Int)) → Option Bool) → Option Bool
  | 0, _, _, _, _, _, _ => none
  | n + 1, list0, x23, x24, x25, q_6, e_2 => (if (decide (x25 < x24)) = true then (if 0 ≤ x25 then (x23[x25.toNat]?).bind fun y_7 => (impl_areNames k y_7.2.1 16).bind fun r_8 => (if (!r_8) = true then some false else (impl_within y_7.2.2.1 0 1000000).bind fun r_9 => (if (!r_9) = true then some false else (impl_within y_7.2.2.2 0 1000).bind fun r_10 => (if (!r_10) = true then some false else (slices_ContainsFunc_string__impl_ValidItems_1 k y_7.2.1 q_6).bind fun r_11 => (if r_11 = true then some false else impl_ValidItems_l1 k n list0 x23 x24 (w_i64 (x25 + 1)) q_6 e_2)))) else none) else e_2 list0)
def impl_ValidItems (k : Nat) (list0 : List (List UInt8 × List (List UInt8) × Int × Int)) : Option Bool := impl_ValidItems_l0 k k list0 list0 (List.length list0 : Int) 0 [] (fun list_3 q_4 => (impl_areNames k q_4 16).bind fun r_5 => (if (!r_5) = true then some false else impl_ValidItems_l1 k k list_3 list_3 (List.length list_3 : Int) 0 q_4 (fun list_12 => (impl_makeOrder k list_12).bind fun r_13 => some (decide ((List.length r_13 : Int) = (List.length list_12 : Int))))))
def impl_ValidItems_l0_h : Head := ⟨[(0, (.val (.sl 37 (.st (.pr .str (.pr (.sl 9 .str) (.pr (.int .i64) (.int .i64)))))))), (3, (.bp 3 [] 0)), (8, (.val (.sl 37 (.st (.pr .str (.pr (.sl 9 .str) (.pr (.int .i64) (.int .i64)))))))), (9, (.val (.int .i64))), (10, (.val (.int .i64)))], [(64000000, 9, .str, false)], [(3, 32, (.ref 64000000 []))]⟩
def impl_ValidItems_l0_x0 : Head := ⟨[(0, (.val (.sl 37 (.st (.pr .str (.pr (.sl 9 .str) (.pr (.int .i64) (.int .i64)))))))), (3, (.bp 3 [] 0))], [(64000000, 9, .str, false)], [(3, 32, (.ref 64000000 []))]⟩
def impl_ValidItems_l0_F (k n : Nat) (x : impl_ValidItems_l0_h.T) (kx : Nat → St → Option Bool) : Option Bool := impl_ValidItems_l0 k n x.1.1 x.1.2.2.1 x.1.2.2.2.1 x.1.2.2.2.2.1 x.2.1.1 (fun (list0 : List (List UInt8 × List (List UInt8) × Int × Int)) (q_3 : List (List UInt8)) => kx 0 (impl_ValidItems_l0_x0.fill ((list0, (), ()), (q_3, ()), ((), ()))))
def impl_ValidItems_l1_h : Head := ⟨[(0, (.val (.sl 37 (.st (.pr .str (.pr (.sl 9 .str) (.pr (.int .i64) (.int .i64)))))))), (3, (.bp 3 [] 0)), (23, (.val (.sl 37 (.st (.pr .str (.pr (.sl 9 .str) (.pr (.int .i64) (.int .i64)))))))), (24, (.val (.int .i64))), (25, (.val (.int .i64)))], [(64000000, 9, .str, false)], [(3, 32, (.ref 64000000 []))]⟩
def impl_ValidItems_l1_x2 : Head := ⟨[(0, (.val (.sl 37 (.st (.pr .str (.pr (.sl 9 .str) (.pr (.int .i64) (.int .i64))))))))], [], []⟩
def impl_ValidItems_l1_F (k n : Nat) (x : impl_ValidItems_l1_h.T) (kx : Nat → St → Option Bool) : Option Bool := impl_ValidItems_l1 k n x.1.1 x.1.2.2.1 x.1.2.2.2.1 x.1.2.2.2.2.1 x.2.1.1 (fun (list0 : List (List UInt8 × List (List UInt8) × Int × Int)) => kx 2 (impl_ValidItems_l1_x2.fill ((list0, ()), (), ())))
def impl_ValidItems_O (k : Nat) : Oracles Bool := ⟨fun n => bif Nat.beq n 3 then some (fun σ kx => impl_ValidItems_l0_h.get σ fun x => impl_ValidItems_l0_F k k x kx) else bif Nat.beq n 10 then some (fun σ kx => impl_ValidItems_l1_h.get σ fun x => impl_ValidItems_l1_F k k x kx) else none, fun _ => none⟩
def fe_impl_ValidItems (k : Nat) : FE := ⟨(.sl 37 (.st (.pr .str (.pr (.sl 9 .str) (.pr (.int .i64) (.int .i64)))))), 1, .bool, fun x => impl_ValidItems k x⟩
theorem impl_ValidItems_l0_ok (k : Nat) : LoopOK (mkEnv ti [(46, fe_impl_areNames k), (47, fe_impl_within), (48, fe_slices_ContainsFunc_string__impl_ValidItems_1 k), (50, fe_impl_makeOrder k)] (lk []) pins0 pinB0) (impl_ValidItems_O k) (rdC (mkEnv ti [(46, fe_impl_areNames k), (47, fe_impl_within), (48, fe_slices_ContainsFunc_string__impl_ValidItems_1 k), (50, fe_impl_makeOrder k)] (lk []) pins0 pinB0) [.tmp 2] .bool) ((loopsOf (codeOf Try.f39)).getD 0 .skip) (fun σ kx => impl_ValidItems_l0_h.get σ fun x => impl_ValidItems_l0_F k k x kx) := by
  refine ⟨impl_ValidItems_l0_h, [(0, impl_ValidItems_l0_x0)], fun n x kx => impl_ValidItems_l0_F k n x kx, k, by kernel_rfl, by kernel_rfl, fun x kx => by kernel_rfl, ?_, fun σ kx => rfl⟩
  rintro n ⟨⟨list0, ⟨⟩, x8, x9, x10, ⟨⟩⟩, ⟨q_1, ⟨⟩⟩, ⟨⟨⟩, ⟨⟩⟩⟩ kx
  kernel_rfl
theorem impl_ValidItems_l1_ok (k : Nat) : LoopOK (mkEnv ti [(46, fe_impl_areNames k), (47, fe_impl_within), (48, fe_slices_ContainsFunc_string__impl_ValidItems_1 k), (50, fe_impl_makeOrder k)] (lk []) pins0 pinB0) (impl_ValidItems_O k) (rdC (mkEnv ti [(46, fe_impl_areNames k), (47, fe_impl_within), (48, fe_slices_ContainsFunc_string__impl_ValidItems_1 k), (50, fe_impl_makeOrder k)] (lk []) pins0 pinB0) [.tmp 2] .bool) ((loopsOf (codeOf Try.f39)).getD 1 .skip) (fun σ kx => impl_ValidItems_l1_h.get σ fun x => impl_ValidItems_l1_F k k x kx) := by
  refine ⟨impl_ValidItems_l1_h, [(2, impl_ValidItems_l1_x2)], fun n x kx => impl_ValidItems_l1_F k n x kx, k, by kernel_rfl, by kernel_rfl, fun x kx => by kernel_rfl, ?_, fun σ kx => rfl⟩
  rintro n ⟨⟨list0, ⟨⟩, x23, x24, x25, ⟨⟩⟩, ⟨q_6, ⟨⟩⟩, ⟨⟨⟩, ⟨⟩⟩⟩ kx
  kernel_rfl
theorem ok_impl_ValidItems (k : Nat) : FnOK Try.prog 39 (fe_impl_ValidItems k) := by
  refine closed_ok (tab := [(46, fe_impl_areNames k), (47, fe_impl_within), (48, fe_slices_ContainsFunc_string__impl_ValidItems_1 k), (50, fe_impl_makeOrder k)]) (l := []) ti_ok ti_ht mix (List.forall_mem_cons.2 ⟨ok_impl_areNames k, (List.forall_mem_cons.2 ⟨ok_impl_within, (List.forall_mem_cons.2 ⟨ok_slices_ContainsFunc_string__impl_ValidItems_1 k, (List.forall_mem_cons.2 ⟨ok_impl_makeOrder k, (List.forall_mem_nil _)⟩)⟩)⟩)⟩) (List.forall_mem_nil _) ⟨⟨Try.f39, (codeOf Try.f39), [.tmp 2], (impl_ValidItems_O k), by kernel_rfl, by kernel_rfl, by kernel_rfl, by kernel_rfl, rfl, by decide, ⟨by kernel_rfl, ?_, ?_⟩, ?_⟩⟩
  · refine loops_of (n := 2) (by kernel_rfl) fun i hi => ?_
    match i, hi with
    | 0, _ => exact loop_of (by kernel_rfl) (impl_ValidItems_l0_ok k)
    | 1, _ => exact loop_of (by kernel_rfl) (impl_ValidItems_l1_ok k)
    | n + 2, hi => omega
  · exact no_cuts (by kernel_rfl)
  · rintro list0
    kernel_rfl
/- 43 cmp.isNaN[string] -/
def cmp_isNaN_string (x0 : List UInt8) : Option Bool := some (!(decide (x0 = x0)))
def fe_cmp_isNaN_string : FE := ⟨.str, 1, .bool, fun x => cmp_isNaN_string x⟩
theorem ok_cmp_isNaN_string : FnOK Try.prog 43 (fe_cmp_isNaN_string) := by
  refine closed_ok (tab := []) (l := []) ti_ok ti_ht mix (List.forall_mem_nil _) (List.forall_mem_nil _) ⟨⟨Try.f43, (codeOf Try.f43), [.tmp 2], (LOn Bool), by kernel_rfl, by kernel_rfl, by kernel_rfl, by kernel_rfl, rfl, by decide, ⟨by kernel_rfl, ?_, ?_⟩, ?_⟩⟩
  · exact no_loops (by kernel_rfl)
  · exact no_cuts (by kernel_rfl)
  · rintro x0
    kernel_rfl
/- 34 cmp.Compare[string] -/
def cmp_Compare_string (x0 : List UInt8) (y1 : List UInt8) : Option Int := (cmp_isNaN_string x0).bind fun r_1 => (cmp_isNaN_string y1).bind fun r_2 => (if r_1 = true then (if r_2 = true then some 0 else some (-1)) else (if r_2 = true then some 1 else (if (Op.bytesLess x0 y1) = true then some (-1) else (if (!(Op.bytesLess x0 y1 || decide (x0 = y1))) = true then some 1 else some 0))))
def fe_cmp_Compare_string : FE := ⟨(.pr .str .str), 1, (.int .i64), fun x => cmp_Compare_string x.1 x.2⟩
theorem ok_cmp_Compare_string : FnOK Try.prog 34 (fe_cmp_Compare_string) := by
  refine closed_ok (tab := [(43, fe_cmp_isNaN_string)]) (l := []) ti_ok ti_ht mix (List.forall_mem_cons.2 ⟨ok_cmp_isNaN_string, (List.forall_mem_nil _)⟩) (List.forall_mem_nil _) ⟨⟨Try.f34, (codeOf Try.f34), [.tmp 4], (LOn Int), by kernel_rfl, by kernel_rfl, by kernel_rfl, by kernel_rfl, rfl, by decide, ⟨by kernel_rfl, ?_, ?_⟩, ?_⟩⟩
  · exact no_loops (by kernel_rfl)
  · exact no_cuts (by kernel_rfl)
  · rintro ⟨x0, y1⟩
    kernel_rfl
/- 33 loop.example/g01005/impl.itemAt$1 -/
def impl_itemAt_1 (x0 : List UInt8 × List (List UInt8) × Int × Int) (name1 : List UInt8) : Option Int := (cmp_Compare_string x0.1 name1).bind fun r_1 => some r_1
def fe_impl_itemAt_1 : FE := ⟨(.pr (.st (.pr .str (.pr (.sl 9 .str) (.pr (.int .i64) (.int .i64))))) .str), 1, (.int .i64), fun x => impl_itemAt_1 x.1 x.2⟩
theorem ok_impl_itemAt_1 : FnOK Try.prog 33 (fe_impl_itemAt_1) := by
  refine closed_ok (tab := [(34, fe_cmp_Compare_string)]) (l := []) ti_ok ti_ht mix (List.forall_mem_cons.2 ⟨ok_cmp_Compare_string, (List.forall_mem_nil _)⟩) (List.forall_mem_nil _) ⟨⟨Try.f33, (codeOf Try.f33), [.tmp 4], (LOn Int), by kernel_rfl, by kernel_rfl, by kernel_rfl, by kernel_rfl, rfl, by decide, ⟨by kernel_rfl, ?_, ?_⟩, ?_⟩⟩
  · exact no_loops (by kernel_rfl)
  · exact no_cuts (by kernel_rfl)
  · rintro ⟨x0, name1⟩
    kernel_rfl
/- 32 slices.BinarySearchFunc[[]loop.example/g01005/impl.Item,loop.example/g01005/impl.Item,string] -/
def slices_BinarySearchFunc_string__impl_itemAt_1_l0 (k : Nat) : Nat → (List (List UInt8 × List (List UInt8) × Int × Int)) → (List UInt8) → Unit → Int → Int → Int → ((List (List UInt8 × List (List UInt8) × Int × Int)) → (List UInt8) → Unit → Int → Int → Option (Int × Bool)) → Option (Int × Bool)
  | 0, _, _, _, _, _, _, _ => none
  | n + 1, x0, target1, cmp2, n8, i9, j10, e_0 => (if (decide (i9 < j10)) = true then (if 0 ≤ (w_i64 ((Int.fdiv (w_u64 ((w_i64 (i9 + j10)))) (2 ^ 1)))) then (x0[(w_i64 ((Int.fdiv (w_u64 ((w_i64 (i9 + j10)))) (2 ^ 1)))).toNat]?).bind fun y_1 => (impl_itemAt_1 y_1 target1).bind fun r_2 => (if (decide (r_2 < 0)) = true then slices_BinarySearchFunc_string__impl_itemAt_1_l0 k n x0 target1 cmp2 n8 (w_i64 ((w_i64 ((Int.fdiv (w_u64 ((w_i64 (i9 + j10)))) (2 ^ 1)))) + 1)) j10 e_0 else slices_BinarySearchFunc_string__impl_itemAt_1_l0 k n x0 target1 cmp2 n8 i9 (w_i64 ((Int.fdiv (w_u64 ((w_i64 (i9 + j10)))) (2 ^ 1)))) e_0) else none) else e_0 x0 target1 cmp2 n8 i9)
def slices_BinarySearchFunc_string__impl_itemAt_1 (k : Nat) (x0 : List (List UInt8 × List (List UInt8) × Int × Int)) (target1 : List UInt8) (cmp2 : Unit) : Option (Int × Bool) := slices_BinarySearchFunc_string__impl_itemAt_1_l0 k k x0 target1 cmp2 (List.length x0 : Int) 0 (List.length x0 : Int) (fun x_3 target_4 cmp_5 n_6 i_7 => (if (decide (i_7 < n_6)) = true then (if 0 ≤ i_7 then (x_3[i_7.toNat]?).bind fun y_8 => (impl_itemAt_1 y_8 target_4).bind fun r_9 => some (i_7, (decide (r_9 = 0))) else none) else some (i_7, false)))
def slices_BinarySearchFunc_string__impl_itemAt_1_l0_h : Head := ⟨[(0, (.val (.sl 37 (.st (.pr .str (.pr (.sl 9 .str) (.pr (.int .i64) (.int .i64)))))))), (1, (.val .str)), (2, (.val (.fn 33 .un))), (8, (.val (.int .i64))), (9, (.val (.int .i64))), (10, (.val (.int .i64)))], [], []⟩
def slices_BinarySearchFunc_string__impl_itemAt_1_l0_x0 : Head := ⟨[(0, (.val (.sl 37 (.st (.pr .str (.pr (.sl 9 .str) (.pr (.int .i64) (.int .i64)))))))), (1, (.val .str)), (2, (.val (.fn 33 .un))), (8, (.val (.int .i64))), (9, (.val (.int .i64)))], [], []⟩
def slices_BinarySearchFunc_string__impl_itemAt_1_l0_F (k n : Nat) (x : slices_BinarySearchFunc_string__impl_itemAt_1_l0_h.T) (kx : Nat → St → Option (Int × Bool)) : Option (Int × Bool) := slices_BinarySearchFunc_string__impl_itemAt_1_l0 k n x.1.1 x.1.2.1 x.1.2.2.1 x.1.2.2.2.1 x.1.2.2.2.2.1 x.1.2.2.2.2.2.1 (fun (x0 : List (List UInt8 × List (List UInt8) × Int × Int)) (target1 : List UInt8) (cmp2 : Unit) (n8 : Int) (i9 : Int) => kx 0 (slices_BinarySearchFunc_string__impl_itemAt_1_l0_x0.fill ((x0, target1, cmp2, n8, i9, ()), (), ())))
def slices_BinarySearchFunc_string__impl_itemAt_1_O (k : Nat) : Oracles (Int × Bool) := ⟨fun n => bif Nat.beq n 3 then some (fun σ kx => slices_BinarySearchFunc_string__impl_itemAt_1_l0_h.get σ fun x => slices_BinarySearchFunc_string__impl_itemAt_1_l0_F k k x kx) else none, fun _ => none⟩
def fe_slices_BinarySearchFunc_string__impl_itemAt_1 (k : Nat) : FE := ⟨(.pr (.sl 37 (.st (.pr .str (.pr (.sl 9 .str) (.pr (.int .i64) (.int .i64)))))) (.pr .str (.fn 33 .un))), 2, (.pr (.int .i64) .bool), fun x => slices_BinarySearchFunc_string__impl_itemAt_1 k x.1 x.2.1 x.2.2⟩
theorem slices_BinarySearchFunc_string__impl_itemAt_1_l0_ok (k : Nat) : LoopOK (mkEnv ti [(33, fe_impl_itemAt_1)] (lk []) pins0 pinB0) (slices_BinarySearchFunc_string__impl_itemAt_1_O k) (rdC (mkEnv ti [(33, fe_impl_itemAt_1)] (lk []) pins0 pinB0) [.tmp 6, .tmp 7] (.pr (.int .i64) .bool)) ((loopsOf (codeOf Try.f32)).getD 0 .skip) (fun σ kx => slices_BinarySearchFunc_string__impl_itemAt_1_l0_h.get σ fun x => slices_BinarySearchFunc_string__impl_itemAt_1_l0_F k k x kx) := by
  refine ⟨slices_BinarySearchFunc_string__impl_itemAt_1_l0_h, [(0, slices_BinarySearchFunc_string__impl_itemAt_1_l0_x0)], fun n x kx => slices_BinarySearchFunc_string__impl_itemAt_1_l0_F k n x kx, k, by kernel_rfl, by kernel_rfl, fun x kx => by kernel_rfl, ?_, fun σ kx => rfl⟩
  rintro n ⟨⟨x0, target1, cmp2, n8, i9, j10, ⟨⟩⟩, ⟨⟩, ⟨⟩⟩ kx
  kernel_rfl
theorem ok_slices_BinarySearchFunc_string__impl_itemAt_1 (k : Nat) : FnOK Try.prog 32 (fe_slices_BinarySearchFunc_string__impl_itemAt_1 k) := by
  refine closed_ok (tab := [(33, fe_impl_itemAt_1)]) (l := []) ti_ok ti_ht mix (List.forall_mem_cons.2 ⟨ok_impl_itemAt_1, (List.forall_mem_nil _)⟩) (List.forall_mem_nil _) ⟨⟨Try.f32, (codeOf Try.f32), [.tmp 6, .tmp 7], (slices_BinarySearchFunc_string__impl_itemAt_1_O k), by kernel_rfl, by kernel_rfl, by kernel_rfl, by kernel_rfl, rfl, by decide, ⟨by kernel_rfl, ?_, ?_⟩, ?_⟩⟩
  · refine loops_of (n := 1) (by kernel_rfl) fun i hi => ?_
    match i, hi with
    | 0, _ => exact loop_of (by kernel_rfl) (slices_BinarySearchFunc_string__impl_itemAt_1_l0_ok k)
    | n + 1, hi => omega
  · exact no_cuts (by kernel_rfl)
  · rintro ⟨x0, target1, cmp2⟩
    kernel_rfl
/- 17 loop.example/g01005/impl.itemAt -/
def impl_itemAt (k : Nat) (list0 : List (List UInt8 × List (List UInt8) × Int × Int)) (name1 : List UInt8) : Option (Int × Bool) := (slices_BinarySearchFunc_string__impl_itemAt_1 k list0 name1 ()).bind fun r_1 => some (r_1.1, r_1.2)
def fe_impl_itemAt (k : Nat) : FE := ⟨(.pr (.sl 37 (.st (.pr .str (.pr (.sl 9 .str) (.pr (.int .i64) (.int .i64)))))) .str), 2, (.pr (.int .i64) .bool), fun x => impl_itemAt k x.1 x.2⟩
theorem ok_impl_itemAt (k : Nat) : FnOK Try.prog 17 (fe_impl_itemAt k) := by
  refine closed_ok (tab := [(32, fe_slices_BinarySearchFunc_string__impl_itemAt_1 k)]) (l := []) ti_ok ti_ht mix (List.forall_mem_cons.2 ⟨ok_slices_BinarySearchFunc_string__impl_itemAt_1 k, (List.forall_mem_nil _)⟩) (List.forall_mem_nil _) ⟨⟨Try.f17, (codeOf Try.f17), [.tmp 4, .tmp 5], (LOn (Int × Bool)), by kernel_rfl, by kernel_rfl, by kernel_rfl, by kernel_rfl, rfl, by decide, ⟨by kernel_rfl, ?_, ?_⟩, ?_⟩⟩
  · exact no_loops (by kernel_rfl)
  · exact no_cuts (by kernel_rfl)
  · rintro ⟨list0, name1⟩
    kernel_rfl
/- 29 loop.example/g01005/impl.itemized -/
def impl_itemized (k : Nat) (list0 : List (List UInt8 × List (List UInt8) × Int × Int)) (name1 : List UInt8) : Option Int := (impl_ValidItems k list0).bind fun r_1 => (if (!r_1) = true then some 1 else (impl_itemAt k list0 name1).bind fun r_2 => (if (!r_2.2) = true then some 3 else some 0))
def fe_impl_itemized (k : Nat) : FE := ⟨(.pr (.sl 37 (.st (.pr .str (.pr (.sl 9 .str) (.pr (.int .i64) (.int .i64)))))) .str), 1, (.int .i64), fun x => impl_itemized k x.1 x.2⟩
theorem ok_impl_itemized (k : Nat) : FnOK Try.prog 29 (fe_impl_itemized k) := by
  refine closed_ok (tab := [(39, fe_impl_ValidItems k), (17, fe_impl_itemAt k)]) (l := []) ti_ok ti_ht mix (List.forall_mem_cons.2 ⟨ok_impl_ValidItems k, (List.forall_mem_cons.2 ⟨ok_impl_itemAt k, (List.forall_mem_nil _)⟩)⟩) (List.forall_mem_nil _) ⟨⟨Try.f29, (codeOf Try.f29), [.tmp 4], (LOn Int), by kernel_rfl, by kernel_rfl, by kernel_rfl, by kernel_rfl, rfl, by decide, ⟨by kernel_rfl, ?_, ?_⟩, ?_⟩⟩
  · exact no_loops (by kernel_rfl)
  · exact no_cuts (by kernel_rfl)
  · rintro ⟨list0, name1⟩
    kernel_rfl
/- 41 loop.example/g01005/impl.itemNamed -/
def impl_itemNamed_r (k : Nat) (list0 : List (List UInt8 × List (List UInt8) × Int × Int)) (name1 : List UInt8) : Option (List UInt8 × List (List UInt8) × Int × Int) := (impl_itemAt k list0 name1).bind fun r_1 => (if 0 ≤ r_1.1 then (list0[r_1.1.toNat]?).bind fun y_2 => some y_2 else none)
def fe_impl_itemNamed_r (k : Nat) : FE := ⟨(.pr (.sl 37 (.st (.pr .str (.pr (.sl 9 .str) (.pr (.int .i64) (.int .i64)))))) .str), RON, (.st (.pr .str (.pr (.sl 9 .str) (.pr (.int .i64) (.int .i64))))), fun x => impl_itemNamed_r k x.1 x.2⟩
theorem ok_impl_itemNamed_r (k : Nat) : FnOK Try.prog 41 (fe_impl_itemNamed_r k) := by
  refine read_ok (tab := [(17, fe_impl_itemAt k)]) (l := []) ti_ok ti_ht mix (List.forall_mem_cons.2 ⟨ok_impl_itemAt k, (List.forall_mem_nil _)⟩) (List.forall_mem_nil _) ⟨by kernel_rfl, ⟨Try.f41, (codeOf Try.f41), [.cell 4 37], (LOn (List UInt8 × List (List UInt8) × Int × Int)), by kernel_rfl, by kernel_rfl, by kernel_rfl, by kernel_rfl, by decide, ⟨by kernel_rfl, ?_, ?_⟩, ?_⟩⟩
  · exact no_loops (by kernel_rfl)
  · exact no_cuts (by kernel_rfl)
  · rintro ⟨list0, name1⟩
    kernel_rfl
/- 42 slices.Sort[[]string,string] (off the shelf) -/
def slices_Sort_string_s (q_1 : List (List UInt8)) : Option ((Unit × Unit) × (List (List UInt8) × Unit) × Unit) := if List.length q_1 ≤ LIM then some (((), ()), (sortS q_1, ()), ()) else none
def oc_slices_Sort_string_s : OC := oc_sort 9 .str sortS
theorem ok_slices_Sort_string_s : OpenOK Try.prog ti 42 oc_slices_Sort_string_s := ok_sortS (fn := Try.f42) (cd := codeOf Try.f42) (by kernel_rfl) (by kernel_rfl) (by kernel_rfl) (fun b off cap l w h1 h2 h3 => Go.Proofs.Try.slices_Sort_string b off cap l w h1 h2 h3) (fun p cap w => Go.Proofs.Try.slices_Sort_string_none p cap w)
/- 31 loop.example/g01005/impl.allNeeds -/
def impl_allNeeds_l1 (k : Nat) : Nat → (List (List UInt8 × List (List UInt8) × Int × Int)) → Int → (List (List UInt8)) → Int → Int → (List (List UInt8)) → (List (List UInt8)) → ((List (List UInt8 × List (List UInt8) × Int × Int)) → Int → (List (List UInt8)) → (List (List UInt8)) → Option (List (List UInt8))) → Option (List (List UInt8))
  | 0, _, _, _, _, _, _, _, _ => none
  | n + 1, list0, k7, x24, x25, x26, q_5, q_6, e_2 => (if (decide (x26 < x25)) = true then (if 0 ≤ x26 then (x24[x26.toNat]?).bind fun y_7 => (slices_Contains_string k q_5 y_7).bind fun r_8 => (if (!r_8) = true then (if (q_5.length + [y_7].length) * 16 ≤ LIM then (if (q_6.length + [y_7].length) * 16 ≤ LIM then impl_allNeeds_l1 k n list0 k7 x24 x25 (w_i64 (x26 + 1)) (q_5 ++ [y_7]) (q_6 ++ [y_7]) e_2 else none) else none) else impl_allNeeds_l1 k n list0 k7 x24 x25 (w_i64 (x26 + 1)) q_5 q_6 e_2) else none) else e_2 list0 k7 q_5 q_6)
def impl_allNeeds_l0 (k : Nat) : Nat → (List (List UInt8 × List (List UInt8) × Int × Int)) → Int → (List (List UInt8)) → (List (List UInt8)) → ((List (List UInt8)) → Option (List (List UInt8))) → Option (List (List UInt8))
  | 0, _, _, _, _, _ => none
  | n + 1, list0, k7, q_1, q_2, e_0 => (if (decide (k7 < (List.length q_2 : Int))) = true then (if 0 ≤ k7 ∧ k7.toNat < List.length q_2 then (q_2[k7.toNat]?).bind fun y_3 => (impl_itemNamed_r k list0 y_3).bind fun r_4 => impl_allNeeds_l1 k k list0 k7 r_4.2.1 (List.length r_4.2.1 : Int) 0 q_1 q_2 (fun list_5 k_6 q_7 q_8 => impl_allNeeds_l0 k n list_5 (w_i64 (k_6 + 1)) q_7 q_8 e_0) else none) else e_0 q_1)
def impl_allNeeds (k : Nat) (list0 : List (List UInt8 × List (List UInt8) × Int × Int)) (name1 : List UInt8) : Option (List (List UInt8)) := impl_allNeeds_l0 k k list0 0 [] [name1] (fun q_9 => (slices_Sort_string_s q_9).bind fun y_10 => some y_10.2.1.1)
def impl_allNeeds_l1_h : Head := ⟨[(0, (.val (.sl 37 (.st (.pr .str (.pr (.sl 9 .str) (.pr (.int .i64) (.int .i64)))))))), (5, (.ref 64000000 [])), (6, (.ref 64000001 [])), (7, (.val (.int .i64))), (24, (.val (.sl 9 .str))), (25, (.val (.int .i64))), (26, (.val (.int .i64)))], [(64000000, 9, .str, false), (64000001, 9, .str, false)], []⟩
def impl_allNeeds_l1_x2 : Head := ⟨[(0, (.val (.sl 37 (.st (.pr .str (.pr (.sl 9 .str) (.pr (.int .i64) (.int .i64)))))))), (5, (.ref 64000000 [])), (6, (.ref 64000001 [])), (7, (.val (.int .i64)))], [(64000000, 9, .str, false), (64000001, 9, .str, false)], []⟩
def impl_allNeeds_l1_F (k n : Nat) (x : impl_allNeeds_l1_h.T) (kx : Nat → St → Option (List (List UInt8))) : Option (List (List UInt8)) := impl_allNeeds_l1 k n x.1.1 x.1.2.2.2.1 x.1.2.2.2.2.1 x.1.2.2.2.2.2.1 x.1.2.2.2.2.2.2.1 x.2.1.1 x.2.1.2.1 (fun (list0 : List (List UInt8 × List (List UInt8) × Int × Int)) (k7 : Int) (q_9 : List (List UInt8)) (q_10 : List (List UInt8)) => kx 2 (impl_allNeeds_l1_x2.fill ((list0, (), (), k7, ()), (q_9, q_10, ()), ())))
def impl_allNeeds_l0_h : Head := ⟨[(0, (.val (.sl 37 (.st (.pr .str (.pr (.sl 9 .str) (.pr (.int .i64) (.int .i64)))))))), (5, (.ref 64000000 [])), (6, (.ref 64000001 [])), (7, (.val (.int .i64)))], [(64000000, 9, .str, false), (64000001, 9, .str, false)], []⟩
def impl_allNeeds_l0_x0 : Head := ⟨[(5, (.ref 64000000 []))], [(64000000, 9, .str, false)], []⟩
def impl_allNeeds_l0_F (k n : Nat) (x : impl_allNeeds_l0_h.T) (kx : Nat → St → Option (List (List UInt8))) : Option (List (List UInt8)) := impl_allNeeds_l0 k n x.1.1 x.1.2.2.2.1 x.2.1.1 x.2.1.2.1 (fun (q_13 : List (List UInt8)) => kx 0 (impl_allNeeds_l0_x0.fill (((), ()), (q_13, ()), ())))
def impl_allNeeds_O (k : Nat) : Oracles (List (List UInt8)) := ⟨fun n => bif Nat.beq n 7 then some (fun σ kx => impl_allNeeds_l1_h.get σ fun x => impl_allNeeds_l1_F k k x kx) else bif Nat.beq n 4 then some (fun σ kx => impl_allNeeds_l0_h.get σ fun x => impl_allNeeds_l0_F k k x kx) else none, fun _ => none⟩
def fe_impl_allNeeds (k : Nat) : FE := ⟨(.pr (.sl 37 (.st (.pr .str (.pr (.sl 9 .str) (.pr (.int .i64) (.int .i64)))))) .str), 1, (.sl 9 .str), fun x => impl_allNeeds k x.1 x.2⟩
theorem impl_allNeeds_l1_ok (k : Nat) : LoopOK (mkEnv ti [(41, fe_impl_itemNamed_r k), (30, fe_slices_Contains_string k)] (lk [(44, 42, oc_slices_Sort_string_s)]) pins0 pinB0) (impl_allNeeds_O k) (rdC (mkEnv ti [(41, fe_impl_itemNamed_r k), (30, fe_slices_Contains_string k)] (lk [(44, 42, oc_slices_Sort_string_s)]) pins0 pinB0) [.tmp 4] (.sl 9 .str)) ((loopsOf (codeOf Try.f31)).getD 1 .skip) (fun σ kx => impl_allNeeds_l1_h.get σ fun x => impl_allNeeds_l1_F k k x kx) := by
  refine ⟨impl_allNeeds_l1_h, [(2, impl_allNeeds_l1_x2)], fun n x kx => impl_allNeeds_l1_F k n x kx, k, by kernel_rfl, by kernel_rfl, fun x kx => by kernel_rfl, ?_, fun σ kx => rfl⟩
  rintro n ⟨⟨list0, ⟨⟩, ⟨⟩, k7, x24, x25, x26, ⟨⟩⟩, ⟨q_5, q_6, ⟨⟩⟩, ⟨⟩⟩ kx
  kernel_rfl
theorem impl_allNeeds_l0_ok (k : Nat) : LoopOK (mkEnv ti [(41, fe_impl_itemNamed_r k), (30, fe_slices_Contains_string k)] (lk [(44, 42, oc_slices_Sort_string_s)]) pins0 pinB0) (impl_allNeeds_O k) (rdC (mkEnv ti [(41, fe_impl_itemNamed_r k), (30, fe_slices_Contains_string k)] (lk [(44, 42, oc_slices_Sort_string_s)]) pins0 pinB0) [.tmp 4] (.sl 9 .str)) ((loopsOf (codeOf Try.f31)).getD 0 .skip) (fun σ kx => impl_allNeeds_l0_h.get σ fun x => impl_allNeeds_l0_F k k x kx) := by
  refine ⟨impl_allNeeds_l0_h, [(0, impl_allNeeds_l0_x0)], fun n x kx => impl_allNeeds_l0_F k n x kx, k, by kernel_rfl, by kernel_rfl, fun x kx => by kernel_rfl, ?_, fun σ kx => rfl⟩
  rintro n ⟨⟨list0, ⟨⟩, ⟨⟩, k7, ⟨⟩⟩, ⟨q_1, q_2, ⟨⟩⟩, ⟨⟩⟩ kx
  kernel_rfl
theorem ok_impl_allNeeds (k : Nat) : FnOK Try.prog 31 (fe_impl_allNeeds k) := by
  refine closed_ok (tab := [(41, fe_impl_itemNamed_r k), (30, fe_slices_Contains_string k)]) (l := [(44, 42, oc_slices_Sort_string_s)]) ti_ok ti_ht mix (List.forall_mem_cons.2 ⟨ok_impl_itemNamed_r k, (List.forall_mem_cons.2 ⟨ok_slices_Contains_string k, (List.forall_mem_nil _)⟩)⟩) (List.forall_mem_cons.2 ⟨ok_slices_Sort_string_s, (List.forall_mem_nil _)⟩) ⟨⟨Try.f31, (codeOf Try.f31), [.tmp 4], (impl_allNeeds_O k), by kernel_rfl, by kernel_rfl, by kernel_rfl, by kernel_rfl, rfl, by decide, ⟨by kernel_rfl, ?_, ?_⟩, ?_⟩⟩
  · refine loops_of (n := 2) (by kernel_rfl) fun i hi => ?_
    match i, hi with
    | 0, _ => exact loop_of (by kernel_rfl) (impl_allNeeds_l0_ok k)
    | 1, _ => exact loop_of (by kernel_rfl) (impl_allNeeds_l1_ok k)
    | n + 2, hi => omega
  · exact no_cuts (by kernel_rfl)
  · rintro ⟨list0, name1⟩
    kernel_rfl
/- 16 loop.example/g01005/impl.UsersOf -/
def impl_UsersOf_l0 (k : Nat) : Nat → (List (List UInt8 × List (List UInt8) × Int × Int)) → (List UInt8) → (List (List UInt8 × List (List UInt8) × Int × Int)) → Int → Int → (List (List UInt8)) → ((List (List UInt8)) → Option (List (List UInt8) × Int)) → Option (List (List UInt8) × Int)
  | 0, _, _, _, _, _, _, _ => none
  | n + 1, list0, name1, x16, x17, x18, q_2, e_0 => (if (decide (x18 < x17)) = true then (if 0 ≤ x18 then (x16[x18.toNat]?).bind fun y_3 => (impl_allNeeds k list0 y_3.1).bind fun r_4 => (slices_Contains_string k r_4 name1).bind fun r_5 => (if r_5 = true then (if (q_2.length + [y_3.1].length) * 16 ≤ LIM then impl_UsersOf_l0 k n list0 name1 x16 x17 (w_i64 (x18 + 1)) (q_2 ++ [y_3.1]) e_0 else none) else impl_UsersOf_l0 k n list0 name1 x16 x17 (w_i64 (x18 + 1)) q_2 e_0) else none) else e_0 q_2)
def impl_UsersOf (k : Nat) (list0 : List (List UInt8 × List (List UInt8) × Int × Int)) (name1 : List UInt8) : Option (List (List UInt8) × Int) := (impl_itemized k list0 name1).bind fun r_1 => (if (!(decide (r_1 = 0))) = true then some ([], r_1) else impl_UsersOf_l0 k k list0 name1 list0 (List.length list0 : Int) 0 [] (fun q_6 => some (q_6, 0)))
def impl_UsersOf_l0_h : Head := ⟨[(0, (.val (.sl 37 (.st (.pr .str (.pr (.sl 9 .str) (.pr (.int .i64) (.int .i64)))))))), (1, (.val .str)), (7, (.ref 64000000 [])), (16, (.val (.sl 37 (.st (.pr .str (.pr (.sl 9 .str) (.pr (.int .i64) (.int .i64)))))))), (17, (.val (.int .i64))), (18, (.val (.int .i64)))], [(64000000, 9, .str, false)], []⟩
def impl_UsersOf_l0_x0 : Head := ⟨[(7, (.ref 64000000 []))], [(64000000, 9, .str, false)], []⟩
def impl_UsersOf_l0_F (k n : Nat) (x : impl_UsersOf_l0_h.T) (kx : Nat → St → Option (List (List UInt8) × Int)) : Option (List (List UInt8) × Int) := impl_UsersOf_l0 k n x.1.1 x.1.2.1 x.1.2.2.2.1 x.1.2.2.2.2.1 x.1.2.2.2.2.2.1 x.2.1.1 (fun (q_6 : List (List UInt8)) => kx 0 (impl_UsersOf_l0_x0.fill (((), ()), (q_6, ()), ())))
def impl_UsersOf_O (k : Nat) : Oracles (List (List UInt8) × Int) := ⟨fun n => bif Nat.beq n 6 then some (fun σ kx => impl_UsersOf_l0_h.get σ fun x => impl_UsersOf_l0_F k k x kx) else none, fun _ => none⟩
def fe_impl_UsersOf (k : Nat) : FE := ⟨(.pr (.sl 37 (.st (.pr .str (.pr (.sl 9 .str) (.pr (.int .i64) (.int .i64)))))) .str), 2, (.pr (.sl 9 .str) (.int .i64)), fun x => impl_UsersOf k x.1 x.2⟩
theorem impl_UsersOf_l0_ok (k : Nat) : LoopOK (mkEnv ti [(29, fe_impl_itemized k), (31, fe_impl_allNeeds k), (30, fe_slices_Contains_string k)] (lk []) pins0 pinB0) (impl_UsersOf_O k) (rdC (mkEnv ti [(29, fe_impl_itemized k), (31, fe_impl_allNeeds k), (30, fe_slices_Contains_string k)] (lk []) pins0 pinB0) [.tmp 4, .tmp 5] (.pr (.sl 9 .str) (.int .i64))) ((loopsOf (codeOf Try.f16)).getD 0 .skip) (fun σ kx => impl_UsersOf_l0_h.get σ fun x => impl_UsersOf_l0_F k k x kx) := by
  refine ⟨impl_UsersOf_l0_h, [(0, impl_UsersOf_l0_x0)], fun n x kx => impl_UsersOf_l0_F k n x kx, k, by kernel_rfl, by kernel_rfl, fun x kx => by kernel_rfl, ?_, fun σ kx => rfl⟩
  rintro n ⟨⟨list0, name1, ⟨⟩, x16, x17, x18, ⟨⟩⟩, ⟨q_2, ⟨⟩⟩, ⟨⟩⟩ kx
  kernel_rfl
theorem ok_impl_UsersOf (k : Nat) : FnOK Try.prog 16 (fe_impl_UsersOf k) := by
  refine closed_ok (tab := [(29, fe_impl_itemized k), (31, fe_impl_allNeeds k), (30, fe_slices_Contains_string k)]) (l := []) ti_ok ti_ht mix (List.forall_mem_cons.2 ⟨ok_impl_itemized k, (List.forall_mem_cons.2 ⟨ok_impl_allNeeds k, (List.forall_mem_cons.2 ⟨ok_slices_Contains_string k, (List.forall_mem_nil _)⟩)⟩)⟩) (List.forall_mem_nil _) ⟨⟨Try.f16, (codeOf Try.f16), [.tmp 4, .tmp 5], (impl_UsersOf_O k), by kernel_rfl, by kernel_rfl, by kernel_rfl, by kernel_rfl, rfl, by decide, ⟨by kernel_rfl, ?_, ?_⟩, ?_⟩⟩
  · refine loops_of (n := 1) (by kernel_rfl) fun i hi => ?_
    match i, hi with
    | 0, _ => exact loop_of (by kernel_rfl) (impl_UsersOf_l0_ok k)
    | n + 1, hi => omega
  · exact no_cuts (by kernel_rfl)
  · rintro ⟨list0, name1⟩
    kernel_rfl
/- 35 slices.Clone[[]string,string] -/
def slices_Clone_string (s0 : List (List UInt8)) : Option (List (List UInt8)) := (if List.isEmpty s0 = true then both (some []) ((if (([] : List Unit).length + s0.length) * 16 ≤ LIM then some s0 else none)) else (if (([] : List Unit).length + s0.length) * 16 ≤ LIM then some s0 else none))
def fe_slices_Clone_string : FE := ⟨(.sl 9 .str), 1, (.sl 9 .str), fun x => slices_Clone_string x⟩
theorem ok_slices_Clone_string : FnOK Try.prog 35 (fe_slices_Clone_string) := by
  refine closed_ok (tab := []) (l := []) ti_ok ti_ht mix (List.forall_mem_nil _) (List.forall_mem_nil _) ⟨⟨Try.f35, (codeOf Try.f35), [.tmp 2], (LOn (List (List UInt8))), by kernel_rfl, by kernel_rfl, by kernel_rfl, by kernel_rfl, rfl, by decide, ⟨by kernel_rfl, ?_, ?_⟩, ?_⟩⟩
  · exact no_loops (by kernel_rfl)
  · exact no_cuts (by kernel_rfl)
  · rintro s0
    kernel_rfl
/- 19 loop.example/g01005/impl.copyItems -/
def impl_copyItems_l0 (k : Nat) : Nat → (List (List UInt8 × List (List UInt8) × Int × Int)) → Int → Int → (List (List UInt8 × List (List UInt8) × Int × Int)) → ((List (List UInt8 × List (List UInt8) × Int × Int)) → Option (List (List UInt8 × List (List UInt8) × Int × Int))) → Option (List (List UInt8 × List (List UInt8) × Int × Int))
  | 0, _, _, _, _, _ => none
  | n + 1, x6, x7, x8, q_1, e_0 => (if (decide (x8 < x7)) = true then (if 0 ≤ x8 then (x6[x8.toNat]?).bind fun y_2 => (slices_Clone_string y_2.2.1).bind fun r_3 => (if (q_1.length + [(y_2.1, (r_3, y_2.2.2))].length) * 56 ≤ LIM then impl_copyItems_l0 k n x6 x7 (w_i64 (x8 + 1)) (q_1 ++ [(y_2.1, (r_3, y_2.2.2))]) e_0 else none) else none) else e_0 q_1)
def impl_copyItems (k : Nat) (list0 : List (List UInt8 × List (List UInt8) × Int × Int)) : Option (List (List UInt8 × List (List UInt8) × Int × Int)) := impl_copyItems_l0 k k list0 (List.length list0 : Int) 0 [] (fun q_4 => some q_4)
def impl_copyItems_l0_h : Head := ⟨[(3, (.ref 64000000 [])), (6, (.val (.sl 37 (.st (.pr .str (.pr (.sl 9 .str) (.pr (.int .i64) (.int .i64)))))))), (7, (.val (.int .i64))), (8, (.val (.int .i64)))], [(64000000, 37, (.st (.pr .str (.pr (.sl 9 .str) (.pr (.int .i64) (.int .i64))))), false)], []⟩
def impl_copyItems_l0_x0 : Head := ⟨[(3, (.ref 64000000 []))], [(64000000, 37, (.st (.pr .str (.pr (.sl 9 .str) (.pr (.int .i64) (.int .i64))))), false)], []⟩
def impl_copyItems_l0_F (k n : Nat) (x : impl_copyItems_l0_h.T) (kx : Nat → St → Option (List (List UInt8 × List (List UInt8) × Int × Int))) : Option (List (List UInt8 × List (List UInt8) × Int × Int)) := impl_copyItems_l0 k n x.1.2.1 x.1.2.2.1 x.1.2.2.2.1 x.2.1.1 (fun (q_4 : List (List UInt8 × List (List UInt8) × Int × Int)) => kx 0 (impl_copyItems_l0_x0.fill (((), ()), (q_4, ()), ())))
def impl_copyItems_O (k : Nat) : Oracles (List (List UInt8 × List (List UInt8) × Int × Int)) := ⟨fun n => bif Nat.beq n 3 then some (fun σ kx => impl_copyItems_l0_h.get σ fun x => impl_copyItems_l0_F k k x kx) else none, fun _ => none⟩
def fe_impl_copyItems (k : Nat) : FE := ⟨(.sl 37 (.st (.pr .str (.pr (.sl 9 .str) (.pr (.int .i64) (.int .i64)))))), 1, (.sl 37 (.st (.pr .str (.pr (.sl 9 .str) (.pr (.int .i64) (.int .i64)))))), fun x => impl_copyItems k x⟩
theorem impl_copyItems_l0_ok (k : Nat) : LoopOK (mkEnv ti [(35, fe_slices_Clone_string)] (lk []) pins0 pinB0) (impl_copyItems_O k) (rdC (mkEnv ti [(35, fe_slices_Clone_string)] (lk []) pins0 pinB0) [.tmp 2] (.sl 37 (.st (.pr .str (.pr (.sl 9 .str) (.pr (.int .i64) (.int .i64))))))) ((loopsOf (codeOf Try.f19)).getD 0 .skip) (fun σ kx => impl_copyItems_l0_h.get σ fun x => impl_copyItems_l0_F k k x kx) := by
  refine ⟨impl_copyItems_l0_h, [(0, impl_copyItems_l0_x0)], fun n x kx => impl_copyItems_l0_F k n x kx, k, by kernel_rfl, by kernel_rfl, fun x kx => by kernel_rfl, ?_, fun σ kx => rfl⟩
  rintro n ⟨⟨⟨⟩, x6, x7, x8, ⟨⟩⟩, ⟨q_1, ⟨⟩⟩, ⟨⟩⟩ kx
  kernel_rfl
theorem ok_impl_copyItems (k : Nat) : FnOK Try.prog 19 (fe_impl_copyItems k) := by
  refine closed_ok (tab := [(35, fe_slices_Clone_string)]) (l := []) ti_ok ti_ht mix (List.forall_mem_cons.2 ⟨ok_slices_Clone_string, (List.forall_mem_nil _)⟩) (List.forall_mem_nil _) ⟨⟨Try.f19, (codeOf Try.f19), [.tmp 2], (impl_copyItems_O k), by kernel_rfl, by kernel_rfl, by kernel_rfl, by kernel_rfl, rfl, by decide, ⟨by kernel_rfl, ?_, ?_⟩, ?_⟩⟩
  · refine loops_of (n := 1) (by kernel_rfl) fun i hi => ?_
    match i, hi with
    | 0, _ => exact loop_of (by kernel_rfl) (impl_copyItems_l0_ok k)
    | n + 1, hi => omega
  · exact no_cuts (by kernel_rfl)
  · rintro list0
    kernel_rfl
/- 18 slices.Delete[[]loop.example/g01005/impl.Item,loop.example/g01005/impl.Item] (by hand) -/
def slices_Delete_impl_Item_s (i1 j2 : Int) (q_1 : List (List UInt8 × List (List UInt8) × Int × Int)) : Option ((Unit × Unit) × (List (List UInt8 × List (List UInt8) × Int × Int) × Unit) × Unit) := if 0 ≤ i1 ∧ i1 ≤ j2 ∧ j2 ≤ (List.length q_1 : Int) then some (((), ()), (List.take i1.toNat q_1 ++ List.drop j2.toNat q_1, ()), ()) else none
def oc_slices_Delete_impl_Item_s : OC := oc_delete 37 (.st (.pr .str (.pr (.sl 9 .str) (.pr (.int .i64) (.int .i64)))))
theorem ok_slices_Delete_impl_Item_s : OpenOK Try.prog ti 18 oc_slices_Delete_impl_Item_s :=
  ok_delete_at (ρ := (⟨fun n => bif Nat.beq n 45 then 18 else n, fun n => bif Nat.beq n 22 then 24 else bif Nat.beq n 23 then 37 else n, fun n => n⟩ : Go.Shelf.Ren)) ti_ok (e := 37) (t := (.st (.pr .str (.pr (.sl 9 .str) (.pr (.int .i64) (.int .i64)))))) mix ⟨Try.f18.name, by kernel_rfl, (Try.func18).trans (congrArg some (by kernel_rfl))⟩ Try.underlying3 Try.isAgg3 Try.underlying4 Try.isAgg4 Try.underlying24 Try.isAgg24 rfl (i := (ti[37]?).getD ⟨.oth, .un, 0⟩) (by kernel_rfl) (by kernel_rfl) (by kernel_rfl) (by kernel_rfl)
/- 7 loop.example/g01005/impl.DropItem -/
def impl_DropItem (k : Nat) (list0 : List (List UInt8 × List (List UInt8) × Int × Int)) (name1 : List UInt8) : Option ((List (List UInt8 × List (List UInt8) × Int × Int)) × Int) := (impl_UsersOf k list0 name1).bind fun r_1 => (if (!(decide (r_1.2 = 0))) = true then some ([], r_1.2) else (if (decide (0 < (List.length r_1.1 : Int))) = true then some ([], 6) else (impl_itemAt k list0 name1).bind fun r_2 => (impl_copyItems k list0).bind fun r_3 => (slices_Delete_impl_Item_s r_2.1 (w_i64 (r_2.1 + 1)) r_3).bind fun y_4 => some (y_4.2.1.1, 0)))
def fe_impl_DropItem (k : Nat) : FE := ⟨(.pr (.sl 37 (.st (.pr .str (.pr (.sl 9 .str) (.pr (.int .i64) (.int .i64)))))) .str), 2, (.pr (.sl 37 (.st (.pr .str (.pr (.sl 9 .str) (.pr (.int .i64) (.int .i64)))))) (.int .i64)), fun x => impl_DropItem k x.1 x.2⟩
theorem ok_impl_DropItem (k : Nat) : FnOK Try.prog 7 (fe_impl_DropItem k) := by
  refine closed_ok (tab := [(16, fe_impl_UsersOf k), (17, fe_impl_itemAt k), (19, fe_impl_copyItems k)]) (l := [(33, 18, oc_slices_Delete_impl_Item_s)]) ti_ok ti_ht mix (List.forall_mem_cons.2 ⟨ok_impl_UsersOf k, (List.forall_mem_cons.2 ⟨ok_impl_itemAt k, (List.forall_mem_cons.2 ⟨ok_impl_copyItems k, (List.forall_mem_nil _)⟩)⟩)⟩) (List.forall_mem_cons.2 ⟨ok_slices_Delete_impl_Item_s, (List.forall_mem_nil _)⟩) ⟨⟨Try.f7, (codeOf Try.f7), [.tmp 4, .tmp 5], (LOn ((List (List UInt8 × List (List UInt8) × Int × Int)) × Int)), by kernel_rfl, by kernel_rfl, by kernel_rfl, by kernel_rfl, rfl, by decide, ⟨by kernel_rfl, ?_, ?_⟩, ?_⟩⟩
  · exact no_loops (by kernel_rfl)
  · exact no_cuts (by kernel_rfl)
  · rintro ⟨list0, name1⟩
    kernel_rfl
end
end Go.Proofs.Ytgcndhlbhlnplaa.Ev
