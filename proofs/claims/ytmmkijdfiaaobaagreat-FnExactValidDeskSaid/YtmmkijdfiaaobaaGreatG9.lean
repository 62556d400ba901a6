/- Functions of the program, as plain ones. No conditions. -/
import Derived.Test.YtmmkijdfiaaobaaGreatG8
import Derived.KernelRfl
set_option linter.unusedVariables false
set_option maxRecDepth 100000
namespace Go.Proofs.YtmmkijdfiaaobaaGreat.Ev
open Go.RowKit
noncomputable section
/- 81 loop.example/g01005/impl.makeOrder -/
def impl_makeOrder_l0 (k : Nat) : Nat → (List (List UInt8 × List (List UInt8) × Int × Int)) → Int → Int → (List (List UInt8)) → ((List (List UInt8)) → Option (List (List UInt8))) → Option (List (List UInt8))
  | 0, _, _, _, _, _ => none
  | n + 1, list0, x6, x7, q_1, e_0 => (if (decide (x7 < x6)) = true then (slices_IndexFunc_impl_Item__impl_makeOrder_1 k list0 q_1).bind fun r_2 => (if (decide (r_2 < 0)) = true then e_0 q_1 else (if 0 ≤ r_2 then (list0[r_2.toNat]?).bind fun y_3 => (if (q_1.length + [y_3.1].length) * 16 ≤ LIM then impl_makeOrder_l0 k n list0 x6 (w_i64 (x7 + 1)) (q_1 ++ [y_3.1]) e_0 else none) else none)) else e_0 q_1)
def impl_makeOrder (k : Nat) (list0 : List (List UInt8 × List (List UInt8) × Int × Int)) : Option (List (List UInt8)) := impl_makeOrder_l0 k k list0 (List.length list0 : Int) 0 [] (fun q_4 => some q_4)
def impl_makeOrder_l0_h : Head := ⟨[(0, (.val (.sl 117 (.st (.pr .str (.pr (.sl 9 .str) (.pr (.int .i64) (.int .i64)))))))), (3, (.bp 3 [] 0)), (6, (.val (.int .i64))), (7, (.val (.int .i64)))], [(64000000, 9, .str, false)], [(3, 98, (.ref 64000000 []))]⟩
def impl_makeOrder_l0_x0 : Head := ⟨[(3, (.bp 3 [] 0))], [(64000000, 9, .str, false)], [(3, 98, (.ref 64000000 []))]⟩
def impl_makeOrder_l0_F (k n : Nat) (x : impl_makeOrder_l0_h.T) (kx : Nat → St → Option (List (List UInt8))) : Option (List (List UInt8)) := impl_makeOrder_l0 k n x.1.1 x.1.2.2.1 x.1.2.2.2.1 x.2.1.1 (fun (q_3 : List (List UInt8)) => kx 0 (impl_makeOrder_l0_x0.fill (((), ()), (q_3, ()), ((), ()))))
def impl_makeOrder_O (k : Nat) : Oracles (List (List UInt8)) := ⟨fun n => bif Nat.beq n 3 then some (fun σ kx => impl_makeOrder_l0_h.get σ fun x => impl_makeOrder_l0_F k k x kx) else none, fun _ => none⟩
def fe_impl_makeOrder (k : Nat) : FE := ⟨(.sl 117 (.st (.pr .str (.pr (.sl 9 .str) (.pr (.int .i64) (.int .i64)))))), 1, (.sl 9 .str), fun x => impl_makeOrder k x⟩
theorem impl_makeOrder_l0_ok (k : Nat) : LoopOK (mkEnv ti [(129, fe_slices_IndexFunc_impl_Item__impl_makeOrder_1 k)] (lk []) pins0 pinB0) (impl_makeOrder_O k) (rdC (mkEnv ti [(129, fe_slices_IndexFunc_impl_Item__impl_makeOrder_1 k)] (lk []) pins0 pinB0) [.tmp 2] (.sl 9 .str)) ((loopsOf (codeOf Tryz.f81)).getD 0 .skip) (fun σ kx => impl_makeOrder_l0_h.get σ fun x => impl_makeOrder_l0_F k k x kx) := by
  refine ⟨impl_makeOrder_l0_h, [(0, impl_makeOrder_l0_x0)], fun n x kx => impl_makeOrder_l0_F k n x kx, k, by kernel_rfl, by kernel_rfl, fun x kx => by kernel_rfl, ?_, fun σ kx => rfl⟩
  rintro n ⟨⟨list0, ⟨⟩, x6, x7, ⟨⟩⟩, ⟨q_1, ⟨⟩⟩, ⟨⟨⟩, ⟨⟩⟩⟩ kx
  kernel_rfl
theorem ok_impl_makeOrder (k : Nat) : FnOK Tryz.prog 81 (fe_impl_makeOrder k) := by
  refine closed_ok (tab := [(129, fe_slices_IndexFunc_impl_Item__impl_makeOrder_1 k)]) (l := []) ti_ok ti_ht mix (List.forall_mem_cons.2 ⟨ok_slices_IndexFunc_impl_Item__impl_makeOrder_1 k, (List.forall_mem_nil _)⟩) (List.forall_mem_nil _) ⟨⟨Tryz.f81, (codeOf Tryz.f81), [.tmp 2], (impl_makeOrder_O k), by kernel_rfl, by kernel_rfl, by kernel_rfl, by kernel_rfl, rfl, by decide, ⟨by kernel_rfl, ?_, ?_⟩, ?_⟩⟩
  · refine loops_of (n := 1) (by kernel_rfl) fun i hi => ?_
    match i, hi with
    | 0, _ => exact loop_of (by kernel_rfl) (impl_makeOrder_l0_ok k)
    | n + 1, hi => omega
  · exact no_cuts (by kernel_rfl)
  · rintro list0
    kernel_rfl
/- 29 loop.example/g01005/impl.ValidItems -/
def impl_ValidItems_l0 (k : Nat) : Nat → (List (List UInt8 × List (List UInt8) × Int × Int)) → (List (List UInt8 × List (List UInt8) × Int × Int)) → Int → Int → (List (List UInt8)) → ((List (List UInt8 × List (List UInt8) × Int × Int)) → (List (List UInt8)) → Option Bool) → Option Bool
  | 0, _, _, _, _, _, _ => none
  | n + 1, list0, x8, x9, x10, q_1, e_0 => (if (decide (x10 < x9)) = true then (if 0 ≤ x10 then (x8[x10.toNat]?).bind fun y_2 => (if (q_1.length + [y_2.1].length) * 16 ≤ LIM then impl_ValidItems_l0 k n list0 x8 x9 (w_i64 (x10 + 1)) (q_1 ++ [y_2.1]) e_0 else none) else none) else e_0 list0 q_1)
def impl_ValidItems_l1 (k : Nat) : Nat → (List (List UInt8 × List (List UInt8) × Int × Int)) → (List (List UInt8 × List (List UInt8) × Int × Int)) → Int → Int → (List (List UInt8)) → ((List (List UInt8 × List (List UInt8) × Int × Int)) → Option Bool) → Option Bool
  | 0, _, _, _, _, _, _ => none
  | n + 1, list0, x23, x24, x25, q_6, e_2 => (if (decide (x25 < x24)) = true then (if 0 ≤ x25 then (x23[x25.toNat]?).bind fun y_7 => (impl_areNames k y_7.2.1 16).bind fun r_8 => (if (!r_8) = true then some false else (impl_within y_7.2.2.1 0 1000000).bind fun r_9 => (if (!r_9) = true then some false else (impl_within y_7.2.2.2 0 1000).bind fun r_10 => (if (!r_10) = true then some false else (slices_ContainsFunc_string__impl_ValidItems_1 k y_7.2.1 q_6).bind fun r_11 => (if r_11 = true then some false else impl_ValidItems_l1 k n list0 x23 x24 (w_i64 (x25 + 1)) q_6 e_2)))) else none) else e_2 list0)
def impl_ValidItems (k : Nat) (list0 : List (List UInt8 × List (List UInt8) × Int × Int)) : Option Bool := impl_ValidItems_l0 k k list0 list0 (List.length list0 : Int) 0 [] (fun list_3 q_4 => (impl_areNames k q_4 16).bind fun r_5 => (if (!r_5) = true then some false else impl_ValidItems_l1 k k list_3 list_3 (List.length list_3 : Int) 0 q_4 (fun list_12 => (impl_makeOrder k list_12).bind fun r_13 => some (decide ((List.length r_13 : Int) = (List.length list_12 : Int))))))
def impl_ValidItems_l0_h : Head := ⟨[(0, (.val (.sl 117 (.st (.pr .str (.pr (.sl 9 .str) (.pr (.int .i64) (.int .i64)))))))), (3, (.bp 3 [] 0)), (8, (.val (.sl 117 (.st (.pr .str (.pr (.sl 9 .str) (.pr (.int .i64) (.int .i64)))))))), (9, (.val (.int .i64))), (10, (.val (.int .i64)))], [(64000000, 9, .str, false)], [(3, 98, (.ref 64000000 []))]⟩
def impl_ValidItems_l0_x0 : Head := ⟨[(0, (.val (.sl 117 (.st (.pr .str (.pr (.sl 9 .str) (.pr (.int .i64) (.int .i64)))))))), (3, (.bp 3 [] 0))], [(64000000, 9, .str, false)], [(3, 98, (.ref 64000000 []))]⟩
def impl_ValidItems_l0_F (k n : Nat) (x : impl_ValidItems_l0_h.T) (kx : Nat → St → Option Bool) : Option Bool := impl_ValidItems_l0 k n x.1.1 x.1.2.2.1 x.1.2.2.2.1 x.1.2.2.2.2.1 x.2.1.1 (fun (list0 : List (List UInt8 × List (List UInt8) × Int × Int)) (q_3 : List (List UInt8)) => kx 0 (impl_ValidItems_l0_x0.fill ((list0, (), ()), (q_3, ()), ((), ()))))
def impl_ValidItems_l1_h : Head := ⟨[(0, (.val (.sl 117 (.st (.pr .str (.pr (.sl 9 .str) (.pr (.int .i64) (.int .i64)))))))), (3, (.bp 3 [] 0)), (23, (.val (.sl 117 (.st (.pr .str (.pr (.sl 9 .str) (.pr (.int .i64) (.int .i64)))))))), (24, (.val (.int .i64))), (25, (.val (.int .i64)))], [(64000000, 9, .str, false)], [(3, 98, (.ref 64000000 []))]⟩
def impl_ValidItems_l1_x2 : Head := ⟨[(0, (.val (.sl 117 (.st (.pr .str (.pr (.sl 9 .str) (.pr (.int .i64) (.int .i64))))))))], [], []⟩
def impl_ValidItems_l1_F (k n : Nat) (x : impl_ValidItems_l1_h.T) (kx : Nat → St → Option Bool) : Option Bool := impl_ValidItems_l1 k n x.1.1 x.1.2.2.1 x.1.2.2.2.1 x.1.2.2.2.2.1 x.2.1.1 (fun (list0 : List (List UInt8 × List (List UInt8) × Int × Int)) => kx 2 (impl_ValidItems_l1_x2.fill ((list0, ()), (), ())))
def impl_ValidItems_O (k : Nat) : Oracles Bool := ⟨fun n => bif Nat.beq n 3 then some (fun σ kx => impl_ValidItems_l0_h.get σ fun x => impl_ValidItems_l0_F k k x kx) else bif Nat.beq n 10 then some (fun σ kx => impl_ValidItems_l1_h.get σ fun x => impl_ValidItems_l1_F k k x kx) else none, fun _ => none⟩
def fe_impl_ValidItems (k : Nat) : FE := ⟨(.sl 117 (.st (.pr .str (.pr (.sl 9 .str) (.pr (.int .i64) (.int .i64)))))), 1, .bool, fun x => impl_ValidItems k x⟩
theorem impl_ValidItems_l0_ok (k : Nat) : LoopOK (mkEnv ti [(77, fe_impl_areNames k), (64, fe_impl_within), (78, fe_slices_ContainsFunc_string__impl_ValidItems_1 k), (81, fe_impl_makeOrder k)] (lk []) pins0 pinB0) (impl_ValidItems_O k) (rdC (mkEnv ti [(77, fe_impl_areNames k), (64, fe_impl_within), (78, fe_slices_ContainsFunc_string__impl_ValidItems_1 k), (81, fe_impl_makeOrder k)] (lk []) pins0 pinB0) [.tmp 2] .bool) ((loopsOf (codeOf Tryz.f29)).getD 0 .skip) (fun σ kx => impl_ValidItems_l0_h.get σ fun x => impl_ValidItems_l0_F k k x kx) := by
  refine ⟨impl_ValidItems_l0_h, [(0, impl_ValidItems_l0_x0)], fun n x kx => impl_ValidItems_l0_F k n x kx, k, by kernel_rfl, by kernel_rfl, fun x kx => by kernel_rfl, ?_, fun σ kx => rfl⟩
  rintro n ⟨⟨list0, ⟨⟩, x8, x9, x10, ⟨⟩⟩, ⟨q_1, ⟨⟩⟩, ⟨⟨⟩, ⟨⟩⟩⟩ kx
  kernel_rfl
theorem impl_ValidItems_l1_ok (k : Nat) : LoopOK (mkEnv ti [(77, fe_impl_areNames k), (64, fe_impl_within), (78, fe_slices_ContainsFunc_string__impl_ValidItems_1 k), (81, fe_impl_makeOrder k)] (lk []) pins0 pinB0) (impl_ValidItems_O k) (rdC (mkEnv ti [(77, fe_impl_areNames k), (64, fe_impl_within), (78, fe_slices_ContainsFunc_string__impl_ValidItems_1 k), (81, fe_impl_makeOrder k)] (lk []) pins0 pinB0) [.tmp 2] .bool) ((loopsOf (codeOf Tryz.f29)).getD 1 .skip) (fun σ kx => impl_ValidItems_l1_h.get σ fun x => impl_ValidItems_l1_F k k x kx) := by
  refine ⟨impl_ValidItems_l1_h, [(2, impl_ValidItems_l1_x2)], fun n x kx => impl_ValidItems_l1_F k n x kx, k, by kernel_rfl, by kernel_rfl, fun x kx => by kernel_rfl, ?_, fun σ kx => rfl⟩
  rintro n ⟨⟨list0, ⟨⟩, x23, x24, x25, ⟨⟩⟩, ⟨q_6, ⟨⟩⟩, ⟨⟨⟩, ⟨⟩⟩⟩ kx
  kernel_rfl
theorem ok_impl_ValidItems (k : Nat) : FnOK Tryz.prog 29 (fe_impl_ValidItems k) := by
  refine closed_ok (tab := [(77, fe_impl_areNames k), (64, fe_impl_within), (78, fe_slices_ContainsFunc_string__impl_ValidItems_1 k), (81, fe_impl_makeOrder k)]) (l := []) ti_ok ti_ht mix (List.forall_mem_cons.2 ⟨ok_impl_areNames k, (List.forall_mem_cons.2 ⟨ok_impl_within, (List.forall_mem_cons.2 ⟨ok_slices_ContainsFunc_string__impl_ValidItems_1 k, (List.forall_mem_cons.2 ⟨ok_impl_makeOrder k, (List.forall_mem_nil _)⟩)⟩)⟩)⟩) (List.forall_mem_nil _) ⟨⟨Tryz.f29, (codeOf Tryz.f29), [.tmp 2], (impl_ValidItems_O k), by kernel_rfl, by kernel_rfl, by kernel_rfl, by kernel_rfl, rfl, by decide, ⟨by kernel_rfl, ?_, ?_⟩, ?_⟩⟩
  · refine loops_of (n := 2) (by kernel_rfl) fun i hi => ?_
    match i, hi with
    | 0, _ => exact loop_of (by kernel_rfl) (impl_ValidItems_l0_ok k)
    | 1, _ => exact loop_of (by kernel_rfl) (impl_ValidItems_l1_ok k)
    | n + 2, hi => omega
  · exact no_cuts (by kernel_rfl)
  · rintro list0
    kernel_rfl
/- 30 loop.example/g01005/impl.isVector -/
def impl_isVector (k : Nat) (x0 : List Int) (length1 : Int) (p2 : Int) : Option Bool := (impl_size_int64 x0).bind fun r_1 => (if (decide (r_1 = length1)) = true then (impl_areElements k x0 p2).bind fun r_2 => some r_2 else some false)
def fe_impl_isVector (k : Nat) : FE := ⟨(.pr (.sl 2 (.int .i64)) (.pr (.int .i64) (.int .i64))), 1, .bool, fun x => impl_isVector k x.1 x.2.1 x.2.2⟩
theorem ok_impl_isVector (k : Nat) : FnOK Tryz.prog 30 (fe_impl_isVector k) := by
  refine closed_ok (tab := [(67, fe_impl_size_int64), (68, fe_impl_areElements k)]) (l := []) ti_ok ti_ht mix (List.forall_mem_cons.2 ⟨ok_impl_size_int64, (List.forall_mem_cons.2 ⟨ok_impl_areElements k, (List.forall_mem_nil _)⟩)⟩) (List.forall_mem_nil _) ⟨⟨Tryz.f30, (codeOf Tryz.f30), [.tmp 6], (LOn Bool), by kernel_rfl, by kernel_rfl, by kernel_rfl, by kernel_rfl, rfl, by decide, ⟨by kernel_rfl, ?_, ?_⟩, ?_⟩⟩
  · exact no_loops (by kernel_rfl)
  · exact no_cuts (by kernel_rfl)
  · rintro ⟨x0, length1, p2⟩
    kernel_rfl
/- 83 loop.example/g01005/impl.isGraphVector$1 -/
def impl_isGraphVector_1 (n0 : Int) : Option Bool := (impl_within n0 (-1000000) 1000000).bind fun r_1 => some (!r_1)
def fe_impl_isGraphVector_1 : FE := ⟨(.int .i64), 1, .bool, fun x => impl_isGraphVector_1 x⟩
theorem ok_impl_isGraphVector_1 : FnOK Tryz.prog 83 (fe_impl_isGraphVector_1) := by
  refine closed_ok (tab := [(64, fe_impl_within)]) (l := []) ti_ok ti_ht mix (List.forall_mem_cons.2 ⟨ok_impl_within, (List.forall_mem_nil _)⟩) (List.forall_mem_nil _) ⟨⟨Tryz.f83, (codeOf Tryz.f83), [.tmp 2], (LOn Bool), by kernel_rfl, by kernel_rfl, by kernel_rfl, by kernel_rfl, rfl, by decide, ⟨by kernel_rfl, ?_, ?_⟩, ?_⟩⟩
  · exact no_loops (by kernel_rfl)
  · exact no_cuts (by kernel_rfl)
  · rintro n0
    kernel_rfl
/- 124 slices.IndexFunc[[]int64,int64] -/
def slices_IndexFunc_int64__impl_isGraphVector_1_l0 (k : Nat) : Nat → (List Int) → Unit → Int → Int → (Option Int) → Option Int
  | 0, _, _, _, _, _ => none
  | n + 1, s0, f1, x7, x8, e_0 => (if (decide (x8 < x7)) = true then (if 0 ≤ x8 then (s0[x8.toNat]?).bind fun y_1 => (impl_isGraphVector_1 y_1).bind fun r_2 => (if r_2 = true then some x8 else slices_IndexFunc_int64__impl_isGraphVector_1_l0 k n s0 f1 x7 (w_i64 (x8 + 1)) e_0) else none) else e_0)
def slices_IndexFunc_int64__impl_isGraphVector_1 (k : Nat) (s0 : List Int) (f1 : Unit) : Option Int := slices_IndexFunc_int64__impl_isGraphVector_1_l0 k k s0 f1 (List.length s0 : Int) 0 (some (-1))
def slices_IndexFunc_int64__impl_isGraphVector_1_l0_h : Head := ⟨[(0, (.val (.sl 2 (.int .i64)))), (1, (.val (.fn 83 .un))), (7, (.val (.int .i64))), (8, (.val (.int .i64)))], [], []⟩
def slices_IndexFunc_int64__impl_isGraphVector_1_l0_x0 : Head := ⟨[], [], []⟩
def slices_IndexFunc_int64__impl_isGraphVector_1_l0_F (k n : Nat) (x : slices_IndexFunc_int64__impl_isGraphVector_1_l0_h.T) (kx : Nat → St → Option Int) : Option Int := slices_IndexFunc_int64__impl_isGraphVector_1_l0 k n x.1.1 x.1.2.1 x.1.2.2.1 x.1.2.2.2.1 (kx 0 (slices_IndexFunc_int64__impl_isGraphVector_1_l0_x0.fill ((), (), ())))
def slices_IndexFunc_int64__impl_isGraphVector_1_O (k : Nat) : Oracles Int := ⟨fun n => bif Nat.beq n 2 then some (fun σ kx => slices_IndexFunc_int64__impl_isGraphVector_1_l0_h.get σ fun x => slices_IndexFunc_int64__impl_isGraphVector_1_l0_F k k x kx) else none, fun _ => none⟩
def fe_slices_IndexFunc_int64__impl_isGraphVector_1 (k : Nat) : FE := ⟨(.pr (.sl 2 (.int .i64)) (.fn 83 .un)), 1, (.int .i64), fun x => slices_IndexFunc_int64__impl_isGraphVector_1 k x.1 x.2⟩
theorem slices_IndexFunc_int64__impl_isGraphVector_1_l0_ok (k : Nat) : LoopOK (mkEnv ti [(83, fe_impl_isGraphVector_1)] (lk []) pins0 pinB0) (slices_IndexFunc_int64__impl_isGraphVector_1_O k) (rdC (mkEnv ti [(83, fe_impl_isGraphVector_1)] (lk []) pins0 pinB0) [.tmp 4] (.int .i64)) ((loopsOf (codeOf Tryz.f124)).getD 0 .skip) (fun σ kx => slices_IndexFunc_int64__impl_isGraphVector_1_l0_h.get σ fun x => slices_IndexFunc_int64__impl_isGraphVector_1_l0_F k k x kx) := by
  refine ⟨slices_IndexFunc_int64__impl_isGraphVector_1_l0_h, [(0, slices_IndexFunc_int64__impl_isGraphVector_1_l0_x0)], fun n x kx => slices_IndexFunc_int64__impl_isGraphVector_1_l0_F k n x kx, k, by kernel_rfl, by kernel_rfl, fun x kx => by kernel_rfl, ?_, fun σ kx => rfl⟩
  rintro n ⟨⟨s0, f1, x7, x8, ⟨⟩⟩, ⟨⟩, ⟨⟩⟩ kx
  kernel_rfl
theorem ok_slices_IndexFunc_int64__impl_isGraphVector_1 (k : Nat) : FnOK Tryz.prog 124 (fe_slices_IndexFunc_int64__impl_isGraphVector_1 k) := by
  refine closed_ok (tab := [(83, fe_impl_isGraphVector_1)]) (l := []) ti_ok ti_ht mix (List.forall_mem_cons.2 ⟨ok_impl_isGraphVector_1, (List.forall_mem_nil _)⟩) (List.forall_mem_nil _) ⟨⟨Tryz.f124, (codeOf Tryz.f124), [.tmp 4], (slices_IndexFunc_int64__impl_isGraphVector_1_O k), by kernel_rfl, by kernel_rfl, by kernel_rfl, by kernel_rfl, rfl, by decide, ⟨by kernel_rfl, ?_, ?_⟩, ?_⟩⟩
  · refine loops_of (n := 1) (by kernel_rfl) fun i hi => ?_
    match i, hi with
    | 0, _ => exact loop_of (by kernel_rfl) (slices_IndexFunc_int64__impl_isGraphVector_1_l0_ok k)
    | n + 1, hi => omega
  · exact no_cuts (by kernel_rfl)
  · rintro ⟨s0, f1⟩
    kernel_rfl
/- 72 slices.ContainsFunc[[]int64,int64] -/
def slices_ContainsFunc_int64__impl_isGraphVector_1 (k : Nat) (s0 : List Int) (f1 : Unit) : Option Bool := (slices_IndexFunc_int64__impl_isGraphVector_1 k s0 f1).bind fun r_1 => some (decide (0 ≤ r_1))
def fe_slices_ContainsFunc_int64__impl_isGraphVector_1 (k : Nat) : FE := ⟨(.pr (.sl 2 (.int .i64)) (.fn 83 .un)), 1, .bool, fun x => slices_ContainsFunc_int64__impl_isGraphVector_1 k x.1 x.2⟩
theorem ok_slices_ContainsFunc_int64__impl_isGraphVector_1 (k : Nat) : FnOK Tryz.prog 72 (fe_slices_ContainsFunc_int64__impl_isGraphVector_1 k) := by
  refine closed_ok (tab := [(124, fe_slices_IndexFunc_int64__impl_isGraphVector_1 k)]) (l := []) ti_ok ti_ht mix (List.forall_mem_cons.2 ⟨ok_slices_IndexFunc_int64__impl_isGraphVector_1 k, (List.forall_mem_nil _)⟩) (List.forall_mem_nil _) ⟨⟨Tryz.f72, (codeOf Tryz.f72), [.tmp 4], (LOn Bool), by kernel_rfl, by kernel_rfl, by kernel_rfl, by kernel_rfl, rfl, by decide, ⟨by kernel_rfl, ?_, ?_⟩, ?_⟩⟩
  · exact no_loops (by kernel_rfl)
  · exact no_cuts (by kernel_rfl)
  · rintro ⟨s0, f1⟩
    kernel_rfl
/- 32 loop.example/g01005/impl.isGraphVector -/
def impl_isGraphVector (k : Nat) (g0 : Int × List (Int × Int × Int)) (x1 : List Int) : Option Bool := (impl_size_int64 x1).bind fun r_1 => (if (decide (r_1 = g0.1)) = true then (slices_ContainsFunc_int64__impl_isGraphVector_1 k x1 ()).bind fun r_2 => some (!r_2) else some false)
def fe_impl_isGraphVector (k : Nat) : FE := ⟨(.pr (.st (.pr (.int .i64) (.sl 128 (.st (.pr (.int .i64) (.pr (.int .i64) (.int .i64))))))) (.sl 2 (.int .i64))), 1, .bool, fun x => impl_isGraphVector k x.1 x.2⟩
theorem ok_impl_isGraphVector (k : Nat) : FnOK Tryz.prog 32 (fe_impl_isGraphVector k) := by
  refine closed_ok (tab := [(67, fe_impl_size_int64), (72, fe_slices_ContainsFunc_int64__impl_isGraphVector_1 k)]) (l := []) ti_ok ti_ht mix (List.forall_mem_cons.2 ⟨ok_impl_size_int64, (List.forall_mem_cons.2 ⟨ok_slices_ContainsFunc_int64__impl_isGraphVector_1 k, (List.forall_mem_nil _)⟩)⟩) (List.forall_mem_nil _) ⟨⟨Tryz.f32, (codeOf Tryz.f32), [.tmp 4], (LOn Bool), by kernel_rfl, by kernel_rfl, by kernel_rfl, by kernel_rfl, rfl, by decide, ⟨by kernel_rfl, ?_, ?_⟩, ?_⟩⟩
  · exact no_loops (by kernel_rfl)
  · exact no_cuts (by kernel_rfl)
  · rintro ⟨g0, x1⟩
    kernel_rfl
/- 7 loop.example/g01005/impl.ValidDesk -/
def impl_ValidDesk (k : Nat) (d0 : (List (List Int) × Int × List Int × List (Int × Int × Int × List Int)) × List Int × (Int × List (Int × Int × Int)) × List Int × (Int × Int × Int × List Int) × (List (List Int × List (List Int))) × (List (List Int) × List Int) × List (List UInt8 × List (List UInt8) × Int × Int)) : Option Bool := (impl_ValidSheaf k d0.1).bind fun r_1 => (if (!r_1) = true then some false else (impl_ValidGraph k d0.2.2.1).bind fun r_2 => (if (!r_2) = true then some false else (impl_ValidMatrix k d0.2.2.2.2.1).bind fun r_3 => (if (!r_3) = true then some false else (impl_ValidTables k d0.2.2.2.2.2.1).bind fun r_4 => (if (!r_4) = true then some false else (impl_ValidFiltration k d0.2.2.2.2.2.2.1).bind fun r_5 => (if (!r_5) = true then some false else (impl_ValidItems k d0.2.2.2.2.2.2.2).bind fun r_6 => (if (!r_6) = true then some false else (impl_stalkSum k d0.1 0).bind fun r_7 => (impl_isVector k d0.2.1 r_7 d0.1.2.1).bind fun r_8 => (if r_8 = true then (impl_isGraphVector k d0.2.2.1 d0.2.2.2.1).bind fun r_9 => some r_9 else some false)))))))
def fe_impl_ValidDesk (k : Nat) : FE := ⟨(.st (.pr (.st (.pr (.st (.sl 25 (.sl 2 (.int .i64)))) (.pr (.int .i64) (.pr (.sl 2 (.int .i64)) (.sl 49 (.st (.pr (.int .i64) (.pr (.int .i64) (.pr (.int .i64) (.sl 2 (.int .i64))))))))))) (.pr (.sl 2 (.int .i64)) (.pr (.st (.pr (.int .i64) (.sl 128 (.st (.pr (.int .i64) (.pr (.int .i64) (.int .i64))))))) (.pr (.sl 2 (.int .i64)) (.pr (.st (.pr (.int .i64) (.pr (.int .i64) (.pr (.int .i64) (.sl 2 (.int .i64)))))) (.pr (.sl 115 (.st (.pr (.sl 2 (.int .i64)) (.sl 25 (.sl 2 (.int .i64)))))) (.pr (.st (.pr (.st (.sl 25 (.sl 2 (.int .i64)))) (.sl 2 (.int .i64)))) (.sl 117 (.st (.pr .str (.pr (.sl 9 .str) (.pr (.int .i64) (.int .i64)))))))))))))), 1, .bool, fun x => impl_ValidDesk k x⟩
theorem ok_impl_ValidDesk (k : Nat) : FnOK Tryz.prog 7 (fe_impl_ValidDesk k) := by
  refine closed_ok (tab := [(24, fe_impl_ValidSheaf k), (25, fe_impl_ValidGraph k), (26, fe_impl_ValidMatrix k), (27, fe_impl_ValidTables k), (28, fe_impl_ValidFiltration k), (29, fe_impl_ValidItems k), (31, fe_impl_stalkSum k), (30, fe_impl_isVector k), (32, fe_impl_isGraphVector k)]) (l := []) ti_ok ti_ht mix (List.forall_mem_cons.2 ⟨ok_impl_ValidSheaf k, (List.forall_mem_cons.2 ⟨ok_impl_ValidGraph k, (List.forall_mem_cons.2 ⟨ok_impl_ValidMatrix k, (List.forall_mem_cons.2 ⟨ok_impl_ValidTables k, (List.forall_mem_cons.2 ⟨ok_impl_ValidFiltration k, (List.forall_mem_cons.2 ⟨ok_impl_ValidItems k, (List.forall_mem_cons.2 ⟨ok_impl_stalkSum k, (List.forall_mem_cons.2 ⟨ok_impl_isVector k, (List.forall_mem_cons.2 ⟨ok_impl_isGraphVector k, (List.forall_mem_nil _)⟩)⟩)⟩)⟩)⟩)⟩)⟩)⟩)⟩) (List.forall_mem_nil _) ⟨⟨Tryz.f7, (codeOf Tryz.f7), [.tmp 2], (LOn Bool), by kernel_rfl, by kernel_rfl, by kernel_rfl, by kernel_rfl, rfl, by decide, ⟨by kernel_rfl, ?_, ?_⟩, ?_⟩⟩
  · exact no_loops (by kernel_rfl)
  · exact no_cuts (by kernel_rfl)
  · rintro d0
    kernel_rfl
/- 34 loop.example/g01005/laws.eqInt64S -/
def laws_eqInt64S_l0 (k : Nat) : Nat → (List Int) → (List Int) → Int → (Option Bool) → Option Bool
  | 0, _, _, _, _ => none
  | n + 1, a0, b1, i5, e_0 => (if (decide (i5 < (List.length a0 : Int))) = true then (if 0 ≤ i5 then (a0[i5.toNat]?).bind fun y_1 => (if 0 ≤ i5 then (b1[i5.toNat]?).bind fun y_2 => (if (!(decide (y_1 = y_2))) = true then some false else laws_eqInt64S_l0 k n a0 b1 (w_i64 (i5 + 1)) e_0) else none) else none) else e_0)
def laws_eqInt64S (k : Nat) (a0 : List Int) (b1 : List Int) : Option Bool := (if (!(decide ((List.length a0 : Int) = (List.length b1 : Int)))) = true then some false else laws_eqInt64S_l0 k k a0 b1 0 (some true))
def laws_eqInt64S_l0_h : Head := ⟨[(0, (.val (.sl 2 (.int .i64)))), (1, (.val (.sl 2 (.int .i64)))), (5, (.val (.int .i64)))], [], []⟩
def laws_eqInt64S_l0_x0 : Head := ⟨[], [], []⟩
def laws_eqInt64S_l0_F (k n : Nat) (x : laws_eqInt64S_l0_h.T) (kx : Nat → St → Option Bool) : Option Bool := laws_eqInt64S_l0 k n x.1.1 x.1.2.1 x.1.2.2.1 (kx 0 (laws_eqInt64S_l0_x0.fill ((), (), ())))
def laws_eqInt64S_O (k : Nat) : Oracles Bool := ⟨fun n => bif Nat.beq n 4 then some (fun σ kx => laws_eqInt64S_l0_h.get σ fun x => laws_eqInt64S_l0_F k k x kx) else none, fun _ => none⟩
def fe_laws_eqInt64S (k : Nat) : FE := ⟨(.pr (.sl 2 (.int .i64)) (.sl 2 (.int .i64))), 1, .bool, fun x => laws_eqInt64S k x.1 x.2⟩
theorem laws_eqInt64S_l0_ok (k : Nat) : LoopOK (mkEnv ti [] (lk []) pins0 pinB0) (laws_eqInt64S_O k) (rdC (mkEnv ti [] (lk []) pins0 pinB0) [.tmp 4] .bool) ((loopsOf (codeOf Tryz.f34)).getD 0 .skip) (fun σ kx => laws_eqInt64S_l0_h.get σ fun x => laws_eqInt64S_l0_F k k x kx) := by
  refine ⟨laws_eqInt64S_l0_h, [(0, laws_eqInt64S_l0_x0)], fun n x kx => laws_eqInt64S_l0_F k n x kx, k, by kernel_rfl, by kernel_rfl, fun x kx => by kernel_rfl, ?_, fun σ kx => rfl⟩
  rintro n ⟨⟨a0, b1, i5, ⟨⟩⟩, ⟨⟩, ⟨⟩⟩ kx
  kernel_rfl
theorem ok_laws_eqInt64S (k : Nat) : FnOK Tryz.prog 34 (fe_laws_eqInt64S k) := by
  refine closed_ok (tab := []) (l := []) ti_ok ti_ht mix (List.forall_mem_nil _) (List.forall_mem_nil _) ⟨⟨Tryz.f34, (codeOf Tryz.f34), [.tmp 4], (laws_eqInt64S_O k), by kernel_rfl, by kernel_rfl, by kernel_rfl, by kernel_rfl, rfl, by decide, ⟨by kernel_rfl, ?_, ?_⟩, ?_⟩⟩
  · refine loops_of (n := 1) (by kernel_rfl) fun i hi => ?_
    match i, hi with
    | 0, _ => exact loop_of (by kernel_rfl) (laws_eqInt64S_l0_ok k)
    | n + 1, hi => omega
  · exact no_cuts (by kernel_rfl)
  · rintro ⟨a0, b1⟩
    kernel_rfl
/- 132 loop.example/g01005/laws.eqInt64SS -/
def laws_eqInt64SS_l0 (k : Nat) : Nat → (List (List Int)) → (List (List Int)) → Int → (Option Bool) → Option Bool
  | 0, _, _, _, _ => none
  | n + 1, a0, b1, i5, e_0 => (if (decide (i5 < (List.length a0 : Int))) = true then (if 0 ≤ i5 then (a0[i5.toNat]?).bind fun y_1 => (if 0 ≤ i5 then (b1[i5.toNat]?).bind fun y_2 => (laws_eqInt64S k y_1 y_2).bind fun r_3 => (if (!r_3) = true then some false else laws_eqInt64SS_l0 k n a0 b1 (w_i64 (i5 + 1)) e_0) else none) else none) else e_0)
def laws_eqInt64SS (k : Nat) (a0 : List (List Int)) (b1 : List (List Int)) : Option Bool := (if (!(decide ((List.length a0 : Int) = (List.length b1 : Int)))) = true then some false else laws_eqInt64SS_l0 k k a0 b1 0 (some true))
def laws_eqInt64SS_l0_h : Head := ⟨[(0, (.val (.sl 25 (.sl 2 (.int .i64))))), (1, (.val (.sl 25 (.sl 2 (.int .i64))))), (5, (.val (.int .i64)))], [], []⟩
def laws_eqInt64SS_l0_x0 : Head := ⟨[], [], []⟩
def laws_eqInt64SS_l0_F (k n : Nat) (x : laws_eqInt64SS_l0_h.T) (kx : Nat → St → Option Bool) : Option Bool := laws_eqInt64SS_l0 k n x.1.1 x.1.2.1 x.1.2.2.1 (kx 0 (laws_eqInt64SS_l0_x0.fill ((), (), ())))
def laws_eqInt64SS_O (k : Nat) : Oracles Bool := ⟨fun n => bif Nat.beq n 4 then some (fun σ kx => laws_eqInt64SS_l0_h.get σ fun x => laws_eqInt64SS_l0_F k k x kx) else none, fun _ => none⟩
def fe_laws_eqInt64SS (k : Nat) : FE := ⟨(.pr (.sl 25 (.sl 2 (.int .i64))) (.sl 25 (.sl 2 (.int .i64)))), 1, .bool, fun x => laws_eqInt64SS k x.1 x.2⟩
theorem laws_eqInt64SS_l0_ok (k : Nat) : LoopOK (mkEnv ti [(34, fe_laws_eqInt64S k)] (lk []) pins0 pinB0) (laws_eqInt64SS_O k) (rdC (mkEnv ti [(34, fe_laws_eqInt64S k)] (lk []) pins0 pinB0) [.tmp 4] .bool) ((loopsOf (codeOf Tryz.f132)).getD 0 .skip) (fun σ kx => laws_eqInt64SS_l0_h.get σ fun x => laws_eqInt64SS_l0_F k k x kx) := by
  refine ⟨laws_eqInt64SS_l0_h, [(0, laws_eqInt64SS_l0_x0)], fun n x kx => laws_eqInt64SS_l0_F k n x kx, k, by kernel_rfl, by kernel_rfl, fun x kx => by kernel_rfl, ?_, fun σ kx => rfl⟩
  rintro n ⟨⟨a0, b1, i5, ⟨⟩⟩, ⟨⟩, ⟨⟩⟩ kx
  kernel_rfl
theorem ok_laws_eqInt64SS (k : Nat) : FnOK Tryz.prog 132 (fe_laws_eqInt64SS k) := by
  refine closed_ok (tab := [(34, fe_laws_eqInt64S k)]) (l := []) ti_ok ti_ht mix (List.forall_mem_cons.2 ⟨ok_laws_eqInt64S k, (List.forall_mem_nil _)⟩) (List.forall_mem_nil _) ⟨⟨Tryz.f132, (codeOf Tryz.f132), [.tmp 4], (laws_eqInt64SS_O k), by kernel_rfl, by kernel_rfl, by kernel_rfl, by kernel_rfl, rfl, by decide, ⟨by kernel_rfl, ?_, ?_⟩, ?_⟩⟩
  · refine loops_of (n := 1) (by kernel_rfl) fun i hi => ?_
    match i, hi with
    | 0, _ => exact loop_of (by kernel_rfl) (laws_eqInt64SS_l0_ok k)
    | n + 1, hi => omega
  · exact no_cuts (by kernel_rfl)
  · rintro ⟨a0, b1⟩
    kernel_rfl
/- 84 loop.example/g01005/laws.eqComplex -/
def laws_eqComplex (k : Nat) (a0 : List (List Int)) (b1 : List (List Int)) : Option Bool := (laws_eqInt64SS k a0 b1).bind fun r_1 => (if (!r_1) = true then some false else some true)
def fe_laws_eqComplex (k : Nat) : FE := ⟨(.pr (.st (.sl 25 (.sl 2 (.int .i64)))) (.st (.sl 25 (.sl 2 (.int .i64))))), 1, .bool, fun x => laws_eqComplex k x.1 x.2⟩
theorem ok_laws_eqComplex (k : Nat) : FnOK Tryz.prog 84 (fe_laws_eqComplex k) := by
  refine closed_ok (tab := [(132, fe_laws_eqInt64SS k)]) (l := []) ti_ok ti_ht mix (List.forall_mem_cons.2 ⟨ok_laws_eqInt64SS k, (List.forall_mem_nil _)⟩) (List.forall_mem_nil _) ⟨⟨Tryz.f84, (codeOf Tryz.f84), [.tmp 4], (LOn Bool), by kernel_rfl, by kernel_rfl, by kernel_rfl, by kernel_rfl, rfl, by decide, ⟨by kernel_rfl, ?_, ?_⟩, ?_⟩⟩
  · exact no_loops (by kernel_rfl)
  · exact no_cuts (by kernel_rfl)
  · rintro ⟨a0, b1⟩
    kernel_rfl
/- 36 loop.example/g01005/laws.eqMatrix -/
def laws_eqMatrix (k : Nat) (a0 : Int × Int × Int × List Int) (b1 : Int × Int × Int × List Int) : Option Bool := (if (!(decide (a0.1 = b1.1))) = true then some false else (if (!(decide (a0.2.1 = b1.2.1))) = true then some false else (if (!(decide (a0.2.2.1 = b1.2.2.1))) = true then some false else (laws_eqInt64S k a0.2.2.2 b1.2.2.2).bind fun r_1 => (if (!r_1) = true then some false else some true))))
def fe_laws_eqMatrix (k : Nat) : FE := ⟨(.pr (.st (.pr (.int .i64) (.pr (.int .i64) (.pr (.int .i64) (.sl 2 (.int .i64)))))) (.st (.pr (.int .i64) (.pr (.int .i64) (.pr (.int .i64) (.sl 2 (.int .i64))))))), 1, .bool, fun x => laws_eqMatrix k x.1 x.2⟩
theorem ok_laws_eqMatrix (k : Nat) : FnOK Tryz.prog 36 (fe_laws_eqMatrix k) := by
  refine closed_ok (tab := [(34, fe_laws_eqInt64S k)]) (l := []) ti_ok ti_ht mix (List.forall_mem_cons.2 ⟨ok_laws_eqInt64S k, (List.forall_mem_nil _)⟩) (List.forall_mem_nil _) ⟨⟨Tryz.f36, (codeOf Tryz.f36), [.tmp 4], (LOn Bool), by kernel_rfl, by kernel_rfl, by kernel_rfl, by kernel_rfl, rfl, by decide, ⟨by kernel_rfl, ?_, ?_⟩, ?_⟩⟩
  · exact no_loops (by kernel_rfl)
  · exact no_cuts (by kernel_rfl)
  · rintro ⟨a0, b1⟩
    kernel_rfl
/- 85 loop.example/g01005/laws.eqMatrixS -/
def laws_eqMatrixS_l0 (k : Nat) : Nat → (List (Int × Int × Int × List Int)) → (List (Int × Int × Int × List Int)) → Int → (Option Bool) → Option Bool
  | 0, _, _, _, _ => none
  | n + 1, a0, b1, i5, e_0 => (if (decide (i5 < (List.length a0 : Int))) = true then (if 0 ≤ i5 then (a0[i5.toNat]?).bind fun y_1 => (if 0 ≤ i5 then (b1[i5.toNat]?).bind fun y_2 => (laws_eqMatrix k y_1 y_2).bind fun r_3 => (if (!r_3) = true then some false else laws_eqMatrixS_l0 k n a0 b1 (w_i64 (i5 + 1)) e_0) else none) else none) else e_0)
def laws_eqMatrixS (k : Nat) (a0 : List (Int × Int × Int × List Int)) (b1 : List (Int × Int × Int × List Int)) : Option Bool := (if (!(decide ((List.length a0 : Int) = (List.length b1 : Int)))) = true then some false else laws_eqMatrixS_l0 k k a0 b1 0 (some true))
def laws_eqMatrixS_l0_h : Head := ⟨[(0, (.val (.sl 49 (.st (.pr (.int .i64) (.pr (.int .i64) (.pr (.int .i64) (.sl 2 (.int .i64))))))))), (1, (.val (.sl 49 (.st (.pr (.int .i64) (.pr (.int .i64) (.pr (.int .i64) (.sl 2 (.int .i64))))))))), (5, (.val (.int .i64)))], [], []⟩
def laws_eqMatrixS_l0_x0 : Head := ⟨[], [], []⟩
def laws_eqMatrixS_l0_F (k n : Nat) (x : laws_eqMatrixS_l0_h.T) (kx : Nat → St → Option Bool) : Option Bool := laws_eqMatrixS_l0 k n x.1.1 x.1.2.1 x.1.2.2.1 (kx 0 (laws_eqMatrixS_l0_x0.fill ((), (), ())))
def laws_eqMatrixS_O (k : Nat) : Oracles Bool := ⟨fun n => bif Nat.beq n 4 then some (fun σ kx => laws_eqMatrixS_l0_h.get σ fun x => laws_eqMatrixS_l0_F k k x kx) else none, fun _ => none⟩
def fe_laws_eqMatrixS (k : Nat) : FE := ⟨(.pr (.sl 49 (.st (.pr (.int .i64) (.pr (.int .i64) (.pr (.int .i64) (.sl 2 (.int .i64))))))) (.sl 49 (.st (.pr (.int .i64) (.pr (.int .i64) (.pr (.int .i64) (.sl 2 (.int .i64)))))))), 1, .bool, fun x => laws_eqMatrixS k x.1 x.2⟩
theorem laws_eqMatrixS_l0_ok (k : Nat) : LoopOK (mkEnv ti [(36, fe_laws_eqMatrix k)] (lk []) pins0 pinB0) (laws_eqMatrixS_O k) (rdC (mkEnv ti [(36, fe_laws_eqMatrix k)] (lk []) pins0 pinB0) [.tmp 4] .bool) ((loopsOf (codeOf Tryz.f85)).getD 0 .skip) (fun σ kx => laws_eqMatrixS_l0_h.get σ fun x => laws_eqMatrixS_l0_F k k x kx) := by
  refine ⟨laws_eqMatrixS_l0_h, [(0, laws_eqMatrixS_l0_x0)], fun n x kx => laws_eqMatrixS_l0_F k n x kx, k, by kernel_rfl, by kernel_rfl, fun x kx => by kernel_rfl, ?_, fun σ kx => rfl⟩
  rintro n ⟨⟨a0, b1, i5, ⟨⟩⟩, ⟨⟩, ⟨⟩⟩ kx
  kernel_rfl
theorem ok_laws_eqMatrixS (k : Nat) : FnOK Tryz.prog 85 (fe_laws_eqMatrixS k) := by
  refine closed_ok (tab := [(36, fe_laws_eqMatrix k)]) (l := []) ti_ok ti_ht mix (List.forall_mem_cons.2 ⟨ok_laws_eqMatrix k, (List.forall_mem_nil _)⟩) (List.forall_mem_nil _) ⟨⟨Tryz.f85, (codeOf Tryz.f85), [.tmp 4], (laws_eqMatrixS_O k), by kernel_rfl, by kernel_rfl, by kernel_rfl, by kernel_rfl, rfl, by decide, ⟨by kernel_rfl, ?_, ?_⟩, ?_⟩⟩
  · refine loops_of (n := 1) (by kernel_rfl) fun i hi => ?_
    match i, hi with
    | 0, _ => exact loop_of (by kernel_rfl) (laws_eqMatrixS_l0_ok k)
    | n + 1, hi => omega
  · exact no_cuts (by kernel_rfl)
  · rintro ⟨a0, b1⟩
    kernel_rfl
/- 33 loop.example/g01005/laws.eqSheaf -/
def laws_eqSheaf (k : Nat) (a0 : List (List Int) × Int × List Int × List (Int × Int × Int × List Int)) (b1 : List (List Int) × Int × List Int × List (Int × Int × Int × List Int)) : Option Bool := (laws_eqComplex k a0.1 b1.1).bind fun r_1 => (if (!r_1) = true then some false else (if (!(decide (a0.2.1 = b1.2.1))) = true then some false else (laws_eqInt64S k a0.2.2.1 b1.2.2.1).bind fun r_2 => (if (!r_2) = true then some false else (laws_eqMatrixS k a0.2.2.2 b1.2.2.2).bind fun r_3 => (if (!r_3) = true then some false else some true))))
def fe_laws_eqSheaf (k : Nat) : FE := ⟨(.pr (.st (.pr (.st (.sl 25 (.sl 2 (.int .i64)))) (.pr (.int .i64) (.pr (.sl 2 (.int .i64)) (.sl 49 (.st (.pr (.int .i64) (.pr (.int .i64) (.pr (.int .i64) (.sl 2 (.int .i64))))))))))) (.st (.pr (.st (.sl 25 (.sl 2 (.int .i64)))) (.pr (.int .i64) (.pr (.sl 2 (.int .i64)) (.sl 49 (.st (.pr (.int .i64) (.pr (.int .i64) (.pr (.int .i64) (.sl 2 (.int .i64)))))))))))), 1, .bool, fun x => laws_eqSheaf k x.1 x.2⟩
theorem ok_laws_eqSheaf (k : Nat) : FnOK Tryz.prog 33 (fe_laws_eqSheaf k) := by
  refine closed_ok (tab := [(84, fe_laws_eqComplex k), (34, fe_laws_eqInt64S k), (85, fe_laws_eqMatrixS k)]) (l := []) ti_ok ti_ht mix (List.forall_mem_cons.2 ⟨ok_laws_eqComplex k, (List.forall_mem_cons.2 ⟨ok_laws_eqInt64S k, (List.forall_mem_cons.2 ⟨ok_laws_eqMatrixS k, (List.forall_mem_nil _)⟩)⟩)⟩) (List.forall_mem_nil _) ⟨⟨Tryz.f33, (codeOf Tryz.f33), [.tmp 4], (LOn Bool), by kernel_rfl, by kernel_rfl, by kernel_rfl, by kernel_rfl, rfl, by decide, ⟨by kernel_rfl, ?_, ?_⟩, ?_⟩⟩
  · exact no_loops (by kernel_rfl)
  · exact no_cuts (by kernel_rfl)
  · rintro ⟨a0, b1⟩
    kernel_rfl
/- 133 loop.example/g01005/laws.eqEdge -/
def laws_eqEdge (a0 : Int × Int × Int) (b1 : Int × Int × Int) : Option Bool := (if (!(decide (a0.1 = b1.1))) = true then some false else (if (!(decide (a0.2.1 = b1.2.1))) = true then some false else (if (!(decide (a0.2.2 = b1.2.2))) = true then some false else some true)))
def fe_laws_eqEdge : FE := ⟨(.pr (.st (.pr (.int .i64) (.pr (.int .i64) (.int .i64)))) (.st (.pr (.int .i64) (.pr (.int .i64) (.int .i64))))), 1, .bool, fun x => laws_eqEdge x.1 x.2⟩
theorem ok_laws_eqEdge : FnOK Tryz.prog 133 (fe_laws_eqEdge) := by
  refine closed_ok (tab := []) (l := []) ti_ok ti_ht mix (List.forall_mem_nil _) (List.forall_mem_nil _) ⟨⟨Tryz.f133, (codeOf Tryz.f133), [.tmp 4], (LOn Bool), by kernel_rfl, by kernel_rfl, by kernel_rfl, by kernel_rfl, rfl, by decide, ⟨by kernel_rfl, ?_, ?_⟩, ?_⟩⟩
  · exact no_loops (by kernel_rfl)
  · exact no_cuts (by kernel_rfl)
  · rintro ⟨a0, b1⟩
    kernel_rfl
/- 86 loop.example/g01005/laws.eqEdgeS -/
def laws_eqEdgeS_l0 (k : Nat) : Nat → (List (Int × Int × Int)) → (List (Int × Int × Int)) → Int → (Option Bool) → Option Bool
  | 0, _, _, _, _ => none
  | n + 1, a0, b1, i5, e_0 => (if (decide (i5 < (List.length a0 : Int))) = true then (if 0 ≤ i5 then (a0[i5.toNat]?).bind fun y_1 => (if 0 ≤ i5 then (b1[i5.toNat]?).bind fun y_2 => (laws_eqEdge y_1 y_2).bind fun r_3 => (if (!r_3) = true then some false else laws_eqEdgeS_l0 k n a0 b1 (w_i64 (i5 + 1)) e_0) else none) else none) else e_0)
def laws_eqEdgeS (k : Nat) (a0 : List (Int × Int × Int)) (b1 : List (Int × Int × Int)) : Option Bool := (if (!(decide ((List.length a0 : Int) = (List.length b1 : Int)))) = true then some false else laws_eqEdgeS_l0 k k a0 b1 0 (some true))
def laws_eqEdgeS_l0_h : Head := ⟨[(0, (.val (.sl 128 (.st (.pr (.int .i64) (.pr (.int .i64) (.int .i64))))))), (1, (.val (.sl 128 (.st (.pr (.int .i64) (.pr (.int .i64) (.int .i64))))))), (5, (.val (.int .i64)))], [], []⟩
def laws_eqEdgeS_l0_x0 : Head := ⟨[], [], []⟩
def laws_eqEdgeS_l0_F (k n : Nat) (x : laws_eqEdgeS_l0_h.T) (kx : Nat → St → Option Bool) : Option Bool := laws_eqEdgeS_l0 k n x.1.1 x.1.2.1 x.1.2.2.1 (kx 0 (laws_eqEdgeS_l0_x0.fill ((), (), ())))
def laws_eqEdgeS_O (k : Nat) : Oracles Bool := ⟨fun n => bif Nat.beq n 4 then some (fun σ kx => laws_eqEdgeS_l0_h.get σ fun x => laws_eqEdgeS_l0_F k k x kx) else none, fun _ => none⟩
def fe_laws_eqEdgeS (k : Nat) : FE := ⟨(.pr (.sl 128 (.st (.pr (.int .i64) (.pr (.int .i64) (.int .i64))))) (.sl 128 (.st (.pr (.int .i64) (.pr (.int .i64) (.int .i64)))))), 1, .bool, fun x => laws_eqEdgeS k x.1 x.2⟩
theorem laws_eqEdgeS_l0_ok (k : Nat) : LoopOK (mkEnv ti [(133, fe_laws_eqEdge)] (lk []) pins0 pinB0) (laws_eqEdgeS_O k) (rdC (mkEnv ti [(133, fe_laws_eqEdge)] (lk []) pins0 pinB0) [.tmp 4] .bool) ((loopsOf (codeOf Tryz.f86)).getD 0 .skip) (fun σ kx => laws_eqEdgeS_l0_h.get σ fun x => laws_eqEdgeS_l0_F k k x kx) := by
  refine ⟨laws_eqEdgeS_l0_h, [(0, laws_eqEdgeS_l0_x0)], fun n x kx => laws_eqEdgeS_l0_F k n x kx, k, by kernel_rfl, by kernel_rfl, fun x kx => by kernel_rfl, ?_, fun σ kx => rfl⟩
  rintro n ⟨⟨a0, b1, i5, ⟨⟩⟩, ⟨⟩, ⟨⟩⟩ kx
  kernel_rfl
theorem ok_laws_eqEdgeS (k : Nat) : FnOK Tryz.prog 86 (fe_laws_eqEdgeS k) := by
  refine closed_ok (tab := [(133, fe_laws_eqEdge)]) (l := []) ti_ok ti_ht mix (List.forall_mem_cons.2 ⟨ok_laws_eqEdge, (List.forall_mem_nil _)⟩) (List.forall_mem_nil _) ⟨⟨Tryz.f86, (codeOf Tryz.f86), [.tmp 4], (laws_eqEdgeS_O k), by kernel_rfl, by kernel_rfl, by kernel_rfl, by kernel_rfl, rfl, by decide, ⟨by kernel_rfl, ?_, ?_⟩, ?_⟩⟩
  · refine loops_of (n := 1) (by kernel_rfl) fun i hi => ?_
    match i, hi with
    | 0, _ => exact loop_of (by kernel_rfl) (laws_eqEdgeS_l0_ok k)
    | n + 1, hi => omega
  · exact no_cuts (by kernel_rfl)
  · rintro ⟨a0, b1⟩
    kernel_rfl
/- 35 loop.example/g01005/laws.eqGraph -/
def laws_eqGraph (k : Nat) (a0 : Int × List (Int × Int × Int)) (b1 : Int × List (Int × Int × Int)) : Option Bool := (if (!(decide (a0.1 = b1.1))) = true then some false else (laws_eqEdgeS k a0.2 b1.2).bind fun r_1 => (if (!r_1) = true then some false else some true))
def fe_laws_eqGraph (k : Nat) : FE := ⟨(.pr (.st (.pr (.int .i64) (.sl 128 (.st (.pr (.int .i64) (.pr (.int .i64) (.int .i64))))))) (.st (.pr (.int .i64) (.sl 128 (.st (.pr (.int .i64) (.pr (.int .i64) (.int .i64)))))))), 1, .bool, fun x => laws_eqGraph k x.1 x.2⟩
theorem ok_laws_eqGraph (k : Nat) : FnOK Tryz.prog 35 (fe_laws_eqGraph k) := by
  refine closed_ok (tab := [(86, fe_laws_eqEdgeS k)]) (l := []) ti_ok ti_ht mix (List.forall_mem_cons.2 ⟨ok_laws_eqEdgeS k, (List.forall_mem_nil _)⟩) (List.forall_mem_nil _) ⟨⟨Tryz.f35, (codeOf Tryz.f35), [.tmp 4], (LOn Bool), by kernel_rfl, by kernel_rfl, by kernel_rfl, by kernel_rfl, rfl, by decide, ⟨by kernel_rfl, ?_, ?_⟩, ?_⟩⟩
  · exact no_loops (by kernel_rfl)
  · exact no_cuts (by kernel_rfl)
  · rintro ⟨a0, b1⟩
    kernel_rfl
/- 87 loop.example/g01005/laws.eqTable -/
def laws_eqTable (k : Nat) (a0 : List Int × List (List Int)) (b1 : List Int × List (List Int)) : Option Bool := (laws_eqInt64S k a0.1 b1.1).bind fun r_1 => (if (!r_1) = true then some false else (laws_eqInt64SS k a0.2 b1.2).bind fun r_2 => (if (!r_2) = true then some false else some true))
def fe_laws_eqTable (k : Nat) : FE := ⟨(.pr (.st (.pr (.sl 2 (.int .i64)) (.sl 25 (.sl 2 (.int .i64))))) (.st (.pr (.sl 2 (.int .i64)) (.sl 25 (.sl 2 (.int .i64)))))), 1, .bool, fun x => laws_eqTable k x.1 x.2⟩
theorem ok_laws_eqTable (k : Nat) : FnOK Tryz.prog 87 (fe_laws_eqTable k) := by
  refine closed_ok (tab := [(34, fe_laws_eqInt64S k), (132, fe_laws_eqInt64SS k)]) (l := []) ti_ok ti_ht mix (List.forall_mem_cons.2 ⟨ok_laws_eqInt64S k, (List.forall_mem_cons.2 ⟨ok_laws_eqInt64SS k, (List.forall_mem_nil _)⟩)⟩) (List.forall_mem_nil _) ⟨⟨Tryz.f87, (codeOf Tryz.f87), [.tmp 4], (LOn Bool), by kernel_rfl, by kernel_rfl, by kernel_rfl, by kernel_rfl, rfl, by decide, ⟨by kernel_rfl, ?_, ?_⟩, ?_⟩⟩
  · exact no_loops (by kernel_rfl)
  · exact no_cuts (by kernel_rfl)
  · rintro ⟨a0, b1⟩
    kernel_rfl
end
end Go.Proofs.YtmmkijdfiaaobaaGreat.Ev
