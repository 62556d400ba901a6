/- Functions of the program, as plain ones. No conditions. -/
import Derived.Test.YtmfkljkpdigenaaG3
import Derived.KernelRfl
set_option linter.unusedVariables false
set_option maxRecDepth 100000
namespace Go.Proofs.Ytmfkljkpdigenaa.Ev
open Go.RowKit
noncomputable section
/- 41 slices.IndexFunc[[]loop.example/g01005/impl.Item,loop.example/g01005/impl.Item] -/
def slices_IndexFunc_impl_Item__impl_RunPlan_1_l0 (k : Nat) : Nat → (List (List UInt8 × List (List UInt8) × Int × Int)) → Int → Int → Int → (Option Int) → Option Int
  | 0, _, _, _, _, _ => none
  | n + 1, s0, f1, x7, x8, e_0 => (if (decide (x8 < x7)) = true then (if 0 ≤ x8 then (s0[x8.toNat]?).bind fun y_1 => (impl_RunPlan_1 y_1 f1).bind fun r_2 => (if r_2 = true then some x8 else slices_IndexFunc_impl_Item__impl_RunPlan_1_l0 k n s0 f1 x7 (w_i64 (x8 + 1)) e_0) else none) else e_0)
def slices_IndexFunc_impl_Item__impl_RunPlan_1 (k : Nat) (s0 : List (List UInt8 × List (List UInt8) × Int × Int)) (f1 : Int) : Option Int := slices_IndexFunc_impl_Item__impl_RunPlan_1_l0 k k s0 f1 (List.length s0 : Int) 0 (some (-1))
def slices_IndexFunc_impl_Item__impl_RunPlan_1_l0_h : Head := ⟨[(0, (.val (.sl 38 (.st (.pr .str (.pr (.sl 9 .str) (.pr (.int .i64) (.int .i64)))))))), (1, (.val (.fn 22 (.ptr (.int .i64))))), (7, (.val (.int .i64))), (8, (.val (.int .i64)))], [], []⟩
def slices_IndexFunc_impl_Item__impl_RunPlan_1_l0_x0 : Head := ⟨[], [], []⟩
def slices_IndexFunc_impl_Item__impl_RunPlan_1_l0_F (k n : Nat) (x : slices_IndexFunc_impl_Item__impl_RunPlan_1_l0_h.T) (kx : Nat → St → Option Int) : Option Int := slices_IndexFunc_impl_Item__impl_RunPlan_1_l0 k n x.1.1 x.1.2.1 x.1.2.2.1 x.1.2.2.2.1 (kx 0 (slices_IndexFunc_impl_Item__impl_RunPlan_1_l0_x0.fill ((), (), ())))
def slices_IndexFunc_impl_Item__impl_RunPlan_1_O (k : Nat) : Oracles Int := ⟨fun n => bif Nat.beq n 2 then some (fun σ kx => slices_IndexFunc_impl_Item__impl_RunPlan_1_l0_h.get σ fun x => slices_IndexFunc_impl_Item__impl_RunPlan_1_l0_F k k x kx) else none, fun _ => none⟩
def fe_slices_IndexFunc_impl_Item__impl_RunPlan_1 (k : Nat) : FE := ⟨(.pr (.sl 38 (.st (.pr .str (.pr (.sl 9 .str) (.pr (.int .i64) (.int .i64)))))) (.fn 22 (.ptr (.int .i64)))), 1, (.int .i64), fun x => slices_IndexFunc_impl_Item__impl_RunPlan_1 k x.1 x.2⟩
theorem slices_IndexFunc_impl_Item__impl_RunPlan_1_l0_ok (k : Nat) : LoopOK (mkEnv ti [(22, fe_impl_RunPlan_1)] (lk []) pins0 pinB0) (slices_IndexFunc_impl_Item__impl_RunPlan_1_O k) (rdC (mkEnv ti [(22, fe_impl_RunPlan_1)] (lk []) pins0 pinB0) [.tmp 4] (.int .i64)) ((loopsOf (codeOf Try.f41)).getD 0 .skip) (fun σ kx => slices_IndexFunc_impl_Item__impl_RunPlan_1_l0_h.get σ fun x => slices_IndexFunc_impl_Item__impl_RunPlan_1_l0_F k k x kx) := by
  refine ⟨slices_IndexFunc_impl_Item__impl_RunPlan_1_l0_h, [(0, slices_IndexFunc_impl_Item__impl_RunPlan_1_l0_x0)], fun n x kx => slices_IndexFunc_impl_Item__impl_RunPlan_1_l0_F k n x kx, k, by kernel_rfl, by kernel_rfl, fun x kx => by kernel_rfl, ?_, fun σ kx => rfl⟩
  rintro n ⟨⟨s0, f1, x7, x8, ⟨⟩⟩, ⟨⟩, ⟨⟩⟩ kx
  kernel_rfl
theorem ok_slices_IndexFunc_impl_Item__impl_RunPlan_1 (k : Nat) : FnOK Try.prog 41 (fe_slices_IndexFunc_impl_Item__impl_RunPlan_1 k) := by
  refine closed_ok (tab := [(22, fe_impl_RunPlan_1)]) (l := []) ti_ok ti_ht mix (List.forall_mem_cons.2 ⟨ok_impl_RunPlan_1, (List.forall_mem_nil _)⟩) (List.forall_mem_nil _) ⟨⟨Try.f41, (codeOf Try.f41), [.tmp 4], (slices_IndexFunc_impl_Item__impl_RunPlan_1_O k), by kernel_rfl, by kernel_rfl, by kernel_rfl, by kernel_rfl, rfl, by decide, ⟨by kernel_rfl, ?_, ?_⟩, ?_⟩⟩
  · refine loops_of (n := 1) (by kernel_rfl) fun i hi => ?_
    match i, hi with
    | 0, _ => exact loop_of (by kernel_rfl) (slices_IndexFunc_impl_Item__impl_RunPlan_1_l0_ok k)
    | n + 1, hi => omega
  · exact no_cuts (by kernel_rfl)
  · rintro ⟨s0, f1⟩
    kernel_rfl
/- 21 slices.ContainsFunc[[]loop.example/g01005/impl.Item,loop.example/g01005/impl.Item] -/
def slices_ContainsFunc_impl_Item__impl_RunPlan_1 (k : Nat) (s0 : List (List UInt8 × List (List UInt8) × Int × Int)) (f1 : Int) : Option Bool := (slices_IndexFunc_impl_Item__impl_RunPlan_1 k s0 f1).bind fun r_1 => some (decide (0 ≤ r_1))
def fe_slices_ContainsFunc_impl_Item__impl_RunPlan_1 (k : Nat) : FE := ⟨(.pr (.sl 38 (.st (.pr .str (.pr (.sl 9 .str) (.pr (.int .i64) (.int .i64)))))) (.fn 22 (.ptr (.int .i64)))), 1, .bool, fun x => slices_ContainsFunc_impl_Item__impl_RunPlan_1 k x.1 x.2⟩
theorem ok_slices_ContainsFunc_impl_Item__impl_RunPlan_1 (k : Nat) : FnOK Try.prog 21 (fe_slices_ContainsFunc_impl_Item__impl_RunPlan_1 k) := by
  refine closed_ok (tab := [(41, fe_slices_IndexFunc_impl_Item__impl_RunPlan_1 k)]) (l := []) ti_ok ti_ht mix (List.forall_mem_cons.2 ⟨ok_slices_IndexFunc_impl_Item__impl_RunPlan_1 k, (List.forall_mem_nil _)⟩) (List.forall_mem_nil _) ⟨⟨Try.f21, (codeOf Try.f21), [.tmp 4], (LOn Bool), by kernel_rfl, by kernel_rfl, by kernel_rfl, by kernel_rfl, rfl, by decide, ⟨by kernel_rfl, ?_, ?_⟩, ?_⟩⟩
  · exact no_loops (by kernel_rfl)
  · exact no_cuts (by kernel_rfl)
  · rintro ⟨s0, f1⟩
    kernel_rfl
/- 42 slices.Clone[[]string,string] -/
def slices_Clone_string (s0 : List (List UInt8)) : Option (List (List UInt8)) := (if List.isEmpty s0 = true then both (some []) ((if (([] : List Unit).length + s0.length) * 16 ≤ LIM then some s0 else none)) else (if (([] : List Unit).length + s0.length) * 16 ≤ LIM then some s0 else none))
def fe_slices_Clone_string : FE := ⟨(.sl 9 .str), 1, (.sl 9 .str), fun x => slices_Clone_string x⟩
theorem ok_slices_Clone_string : FnOK Try.prog 42 (fe_slices_Clone_string) := by
  refine closed_ok (tab := []) (l := []) ti_ok ti_ht mix (List.forall_mem_nil _) (List.forall_mem_nil _) ⟨⟨Try.f42, (codeOf Try.f42), [.tmp 2], (LOn (List (List UInt8))), by kernel_rfl, by kernel_rfl, by kernel_rfl, by kernel_rfl, rfl, by decide, ⟨by kernel_rfl, ?_, ?_⟩, ?_⟩⟩
  · exact no_loops (by kernel_rfl)
  · exact no_cuts (by kernel_rfl)
  · rintro s0
    kernel_rfl
/- 23 loop.example/g01005/impl.copyItems -/
def impl_copyItems_l0 (k : Nat) : Nat → (List (List UInt8 × List (List UInt8) × Int × Int)) → Int → Int → (List (List UInt8 × List (List UInt8) × Int × Int)) → ((List (List UInt8 × List (List UInt8) × Int × Int)) → Option (List (List UInt8 × List (List UInt8) × Int × Int))) → Option (List (List UInt8 × List (List UInt8) × Int × Int))
  | 0, _, _, _, _, _ => none
  | n + 1, x6, x7, x8, q_1, e_0 => (if (decide (x8 < x7)) = true then (if 0 ≤ x8 then (x6[x8.toNat]?).bind fun y_2 => (slices_Clone_string y_2.2.1).bind fun r_3 => (if (q_1.length + [(y_2.1, (r_3, y_2.2.2))].length) * 56 ≤ LIM then impl_copyItems_l0 k n x6 x7 (w_i64 (x8 + 1)) (q_1 ++ [(y_2.1, (r_3, y_2.2.2))]) e_0 else none) else none) else e_0 q_1)
def impl_copyItems (k : Nat) (list0 : List (List UInt8 × List (List UInt8) × Int × Int)) : Option (List (List UInt8 × List (List UInt8) × Int × Int)) := impl_copyItems_l0 k k list0 (List.length list0 : Int) 0 [] (fun q_4 => some q_4)
def impl_copyItems_l0_h : Head := ⟨[(3, (.ref 64000000 [])), (6, (.val (.sl 38 (.st (.pr .str (.pr (.sl 9 .str) (.pr (.int .i64) (.int .i64)))))))), (7, (.val (.int .i64))), (8, (.val (.int .i64)))], [(64000000, 38, (.st (.pr .str (.pr (.sl 9 .str) (.pr (.int .i64) (.int .i64))))), false)], []⟩
def impl_copyItems_l0_x0 : Head := ⟨[(3, (.ref 64000000 []))], [(64000000, 38, (.st (.pr .str (.pr (.sl 9 .str) (.pr (.int .i64) (.int .i64))))), false)], []⟩
def impl_copyItems_l0_F (k n : Nat) (x : impl_copyItems_l0_h.T) (kx : Nat → St → Option (List (List UInt8 × List (List UInt8) × Int × Int))) : Option (List (List UInt8 × List (List UInt8) × Int × Int)) := impl_copyItems_l0 k n x.1.2.1 x.1.2.2.1 x.1.2.2.2.1 x.2.1.1 (fun (q_4 : List (List UInt8 × List (List UInt8) × Int × Int)) => kx 0 (impl_copyItems_l0_x0.fill (((), ()), (q_4, ()), ())))
def impl_copyItems_O (k : Nat) : Oracles (List (List UInt8 × List (List UInt8) × Int × Int)) := ⟨fun n => bif Nat.beq n 3 then some (fun σ kx => impl_copyItems_l0_h.get σ fun x => impl_copyItems_l0_F k k x kx) else none, fun _ => none⟩
def fe_impl_copyItems (k : Nat) : FE := ⟨(.sl 38 (.st (.pr .str (.pr (.sl 9 .str) (.pr (.int .i64) (.int .i64)))))), 1, (.sl 38 (.st (.pr .str (.pr (.sl 9 .str) (.pr (.int .i64) (.int .i64)))))), fun x => impl_copyItems k x⟩
theorem impl_copyItems_l0_ok (k : Nat) : LoopOK (mkEnv ti [(42, fe_slices_Clone_string)] (lk []) pins0 pinB0) (impl_copyItems_O k) (rdC (mkEnv ti [(42, fe_slices_Clone_string)] (lk []) pins0 pinB0) [.tmp 2] (.sl 38 (.st (.pr .str (.pr (.sl 9 .str) (.pr (.int .i64) (.int .i64))))))) ((loopsOf (codeOf Try.f23)).getD 0 .skip) (fun σ kx => impl_copyItems_l0_h.get σ fun x => impl_copyItems_l0_F k k x kx) := by
  refine ⟨impl_copyItems_l0_h, [(0, impl_copyItems_l0_x0)], fun n x kx => impl_copyItems_l0_F k n x kx, k, by kernel_rfl, by kernel_rfl, fun x kx => by kernel_rfl, ?_, fun σ kx => rfl⟩
  rintro n ⟨⟨⟨⟩, x6, x7, x8, ⟨⟩⟩, ⟨q_1, ⟨⟩⟩, ⟨⟩⟩ kx
  kernel_rfl
theorem ok_impl_copyItems (k : Nat) : FnOK Try.prog 23 (fe_impl_copyItems k) := by
  refine closed_ok (tab := [(42, fe_slices_Clone_string)]) (l := []) ti_ok ti_ht mix (List.forall_mem_cons.2 ⟨ok_slices_Clone_string, (List.forall_mem_nil _)⟩) (List.forall_mem_nil _) ⟨⟨Try.f23, (codeOf Try.f23), [.tmp 2], (impl_copyItems_O k), by kernel_rfl, by kernel_rfl, by kernel_rfl, by kernel_rfl, rfl, by decide, ⟨by kernel_rfl, ?_, ?_⟩, ?_⟩⟩
  · refine loops_of (n := 1) (by kernel_rfl) fun i hi => ?_
    match i, hi with
    | 0, _ => exact loop_of (by kernel_rfl) (impl_copyItems_l0_ok k)
    | n + 1, hi => omega
  · exact no_cuts (by kernel_rfl)
  · rintro list0
    kernel_rfl
/- 57 loop.example/g01005/impl.itemNamed -/
def impl_itemNamed_r (k : Nat) (list0 : List (List UInt8 × List (List UInt8) × Int × Int)) (name1 : List UInt8) : Option (List UInt8 × List (List UInt8) × Int × Int) := (impl_itemAt k list0 name1).bind fun r_1 => (if 0 ≤ r_1.1 then (list0[r_1.1.toNat]?).bind fun y_2 => some y_2 else none)
def fe_impl_itemNamed_r (k : Nat) : FE := ⟨(.pr (.sl 38 (.st (.pr .str (.pr (.sl 9 .str) (.pr (.int .i64) (.int .i64)))))) .str), RON, (.st (.pr .str (.pr (.sl 9 .str) (.pr (.int .i64) (.int .i64))))), fun x => impl_itemNamed_r k x.1 x.2⟩
theorem ok_impl_itemNamed_r (k : Nat) : FnOK Try.prog 57 (fe_impl_itemNamed_r k) := by
  refine read_ok (tab := [(25, fe_impl_itemAt k)]) (l := []) ti_ok ti_ht mix (List.forall_mem_cons.2 ⟨ok_impl_itemAt k, (List.forall_mem_nil _)⟩) (List.forall_mem_nil _) ⟨⟨Try.f57, (codeOf Try.f57), [.cell 4 38], (LOn (List UInt8 × List (List UInt8) × Int × Int)), by kernel_rfl, by kernel_rfl, by kernel_rfl, by kernel_rfl, by decide, ⟨by kernel_rfl, ?_, ?_⟩, ?_⟩⟩
  · exact no_loops (by kernel_rfl)
  · exact no_cuts (by kernel_rfl)
  · rintro ⟨list0, name1⟩
    kernel_rfl
/- 58 slices.Sort[[]string,string] (off the shelf) -/
def slices_Sort_string_s (q_1 : List (List UInt8)) : Option ((Unit × Unit) × (List (List UInt8) × Unit) × Unit) := if List.length q_1 ≤ LIM then some (((), ()), (sortS q_1, ()), ()) else none
def oc_slices_Sort_string_s : OC := oc_sort 9 .str sortS
theorem ok_slices_Sort_string_s : OpenOK Try.prog ti 58 oc_slices_Sort_string_s := ok_sortS (fn := Try.f58) (cd := codeOf Try.f58) (by kernel_rfl) (by kernel_rfl) (by kernel_rfl) (fun b off cap l w h1 h2 h3 => Go.Proofs.Try.slices_Sort_string b off cap l w h1 h2 h3) (fun p cap w => Go.Proofs.Try.slices_Sort_string_none p cap w)
/- 43 loop.example/g01005/impl.allNeeds -/
def impl_allNeeds_l1 (k : Nat) : Nat → (List (List UInt8 × List (List UInt8) × Int × Int)) → Int → (List (List UInt8)) → Int → Int → (List (List UInt8)) → (List (List UInt8)) → ((List (List UInt8 × List (List UInt8) × Int × Int)) → Int → (List (List UInt8)) → (List (List UInt8)) → Option (List (List UInt8))) → Option (List (List UInt8))
  | 0, _, _, _, _, _, _, _, _ => none
  | n + 1, list0, k7, x24, x25, x26, q_5, q_6, e_2 => (if (decide (x26 < x25)) = true then (if 0 ≤ x26 then (x24[x26.toNat]?).bind fun y_7 => (slices_Contains_string k q_5 y_7).bind fun r_8 => (if (!r_8) = true then (if (q_5.length + [y_7].length) * 16 ≤ LIM then (if (q_6.length + [y_7].length) * 16 ≤ LIM then impl_allNeeds_l1 k n list0 k7 x24 x25 (w_i64 (x26 + 1)) (q_5 ++ [y_7]) (q_6 ++ [y_7]) e_2 else none) else none) else impl_allNeeds_l1 k n list0 k7 x24 x25 (w_i64 (x26 + 1)) q_5 q_6 e_2) else none) else e_2 list0 k7 q_5 q_6)
def impl_allNeeds_l0 (k : Nat) : Nat → (List (List UInt8 × List (List UInt8) × Int × Int)) → Int → (List (List UInt8)) → (List (List UInt8)) → ((List (List UInt8)) → Option (List (List UInt8))) → Option (List (List UInt8))
  | 0, _, _, _, _, _ => none
  | n + 1, list0, k7, q_1, q_2, e_0 => (if (decide (k7 < (List.length q_2 : Int))) = true then (if 0 ≤ k7 ∧ k7.toNat < List.length q_2 then (q_2[k7.toNat]?).bind fun y_3 => (impl_itemNamed_r k list0 y_3).bind fun r_4 => impl_allNeeds_l1 k k list0 k7 r_4.2.1 (List.length r_4.2.1 : Int) 0 q_1 q_2 (fun list_5 k_6 q_7 q_8 => impl_allNeeds_l0 k n list_5 (w_i64 (k_6 + 1)) q_7 q_8 e_0) else none) else e_0 q_1)
def impl_allNeeds (k : Nat) (list0 : List (List UInt8 × List (List UInt8) × Int × Int)) (name1 : List UInt8) : Option (List (List UInt8)) := impl_allNeeds_l0 k k list0 0 [] [name1] (fun q_9 => (slices_Sort_string_s q_9).bind fun y_10 => some y_10.2.1.1)
def impl_allNeeds_l1_h : Head := ⟨[(0, (.val (.sl 38 (.st (.pr .str (.pr (.sl 9 .str) (.pr (.int .i64) (.int .i64)))))))), (5, (.ref 64000000 [])), (6, (.ref 64000001 [])), (7, (.val (.int .i64))), (24, (.val (.sl 9 .str))), (25, (.val (.int .i64))), (26, (.val (.int .i64)))], [(64000000, 9, .str, false), (64000001, 9, .str, false)], []⟩
def impl_allNeeds_l1_x2 : Head := ⟨[(0, (.val (.sl 38 (.st (.pr .str (.pr (.sl 9 .str) (.pr (.int .i64) (.int .i64)))))))), (5, (.ref 64000000 [])), (6, (.ref 64000001 [])), (7, (.val (.int .i64)))], [(64000000, 9, .str, false), (64000001, 9, .str, false)], []⟩
def impl_allNeeds_l1_F (k n : Nat) (x : impl_allNeeds_l1_h.T) (kx : Nat → St → Option (List (List UInt8))) : Option (List (List UInt8)) := impl_allNeeds_l1 k n x.1.1 x.1.2.2.2.1 x.1.2.2.2.2.1 x.1.2.2.2.2.2.1 x.1.2.2.2.2.2.2.1 x.2.1.1 x.2.1.2.1 (fun (list0 : List (List UInt8 × List (List UInt8) × Int × Int)) (k7 : Int) (q_9 : List (List UInt8)) (q_10 : List (List UInt8)) => kx 2 (impl_allNeeds_l1_x2.fill ((list0, (), (), k7, ()), (q_9, q_10, ()), ())))
def impl_allNeeds_l0_h : Head := ⟨[(0, (.val (.sl 38 (.st (.pr .str (.pr (.sl 9 .str) (.pr (.int .i64) (.int .i64)))))))), (5, (.ref 64000000 [])), (6, (.ref 64000001 [])), (7, (.val (.int .i64)))], [(64000000, 9, .str, false), (64000001, 9, .str, false)], []⟩
def impl_allNeeds_l0_x0 : Head := ⟨[(5, (.ref 64000000 []))], [(64000000, 9, .str, false)], []⟩
def impl_allNeeds_l0_F (k n : Nat) (x : impl_allNeeds_l0_h.T) (kx : Nat → St → Option (List (List UInt8))) : Option (List (List UInt8)) := impl_allNeeds_l0 k n x.1.1 x.1.2.2.2.1 x.2.1.1 x.2.1.2.1 (fun (q_13 : List (List UInt8)) => kx 0 (impl_allNeeds_l0_x0.fill (((), ()), (q_13, ()), ())))
def impl_allNeeds_O (k : Nat) : Oracles (List (List UInt8)) := ⟨fun n => bif Nat.beq n 7 then some (fun σ kx => impl_allNeeds_l1_h.get σ fun x => impl_allNeeds_l1_F k k x kx) else bif Nat.beq n 4 then some (fun σ kx => impl_allNeeds_l0_h.get σ fun x => impl_allNeeds_l0_F k k x kx) else none, fun _ => none⟩
def fe_impl_allNeeds (k : Nat) : FE := ⟨(.pr (.sl 38 (.st (.pr .str (.pr (.sl 9 .str) (.pr (.int .i64) (.int .i64)))))) .str), 1, (.sl 9 .str), fun x => impl_allNeeds k x.1 x.2⟩
theorem impl_allNeeds_l1_ok (k : Nat) : LoopOK (mkEnv ti [(57, fe_impl_itemNamed_r k), (39, fe_slices_Contains_string k)] (lk [(44, 58, oc_slices_Sort_string_s)]) pins0 pinB0) (impl_allNeeds_O k) (rdC (mkEnv ti [(57, fe_impl_itemNamed_r k), (39, fe_slices_Contains_string k)] (lk [(44, 58, oc_slices_Sort_string_s)]) pins0 pinB0) [.tmp 4] (.sl 9 .str)) ((loopsOf (codeOf Try.f43)).getD 1 .skip) (fun σ kx => impl_allNeeds_l1_h.get σ fun x => impl_allNeeds_l1_F k k x kx) := by
  refine ⟨impl_allNeeds_l1_h, [(2, impl_allNeeds_l1_x2)], fun n x kx => impl_allNeeds_l1_F k n x kx, k, by kernel_rfl, by kernel_rfl, fun x kx => by kernel_rfl, ?_, fun σ kx => rfl⟩
  rintro n ⟨⟨list0, ⟨⟩, ⟨⟩, k7, x24, x25, x26, ⟨⟩⟩, ⟨q_5, q_6, ⟨⟩⟩, ⟨⟩⟩ kx
  kernel_rfl
theorem impl_allNeeds_l0_ok (k : Nat) : LoopOK (mkEnv ti [(57, fe_impl_itemNamed_r k), (39, fe_slices_Contains_string k)] (lk [(44, 58, oc_slices_Sort_string_s)]) pins0 pinB0) (impl_allNeeds_O k) (rdC (mkEnv ti [(57, fe_impl_itemNamed_r k), (39, fe_slices_Contains_string k)] (lk [(44, 58, oc_slices_Sort_string_s)]) pins0 pinB0) [.tmp 4] (.sl 9 .str)) ((loopsOf (codeOf Try.f43)).getD 0 .skip) (fun σ kx => impl_allNeeds_l0_h.get σ fun x => impl_allNeeds_l0_F k k x kx) := by
  refine ⟨impl_allNeeds_l0_h, [(0, impl_allNeeds_l0_x0)], fun n x kx => impl_allNeeds_l0_F k n x kx, k, by kernel_rfl, by kernel_rfl, fun x kx => by kernel_rfl, ?_, fun σ kx => rfl⟩
  rintro n ⟨⟨list0, ⟨⟩, ⟨⟩, k7, ⟨⟩⟩, ⟨q_1, q_2, ⟨⟩⟩, ⟨⟩⟩ kx
  kernel_rfl
theorem ok_impl_allNeeds (k : Nat) : FnOK Try.prog 43 (fe_impl_allNeeds k) := by
  refine closed_ok (tab := [(57, fe_impl_itemNamed_r k), (39, fe_slices_Contains_string k)]) (l := [(44, 58, oc_slices_Sort_string_s)]) ti_ok ti_ht mix (List.forall_mem_cons.2 ⟨ok_impl_itemNamed_r k, (List.forall_mem_cons.2 ⟨ok_slices_Contains_string k, (List.forall_mem_nil _)⟩)⟩) (List.forall_mem_cons.2 ⟨ok_slices_Sort_string_s, (List.forall_mem_nil _)⟩) ⟨⟨Try.f43, (codeOf Try.f43), [.tmp 4], (impl_allNeeds_O k), by kernel_rfl, by kernel_rfl, by kernel_rfl, by kernel_rfl, rfl, by decide, ⟨by kernel_rfl, ?_, ?_⟩, ?_⟩⟩
  · refine loops_of (n := 2) (by kernel_rfl) fun i hi => ?_
    match i, hi with
    | 0, _ => exact loop_of (by kernel_rfl) (impl_allNeeds_l0_ok k)
    | 1, _ => exact loop_of (by kernel_rfl) (impl_allNeeds_l1_ok k)
    | n + 2, hi => omega
  · exact no_cuts (by kernel_rfl)
  · rintro ⟨list0, name1⟩
    kernel_rfl
/- 59 loop.example/g01005/impl.staleItems$1 -/
def impl_staleItems_1 (k : Nat) (n0 : List UInt8) (x1 : List (List UInt8)) (x2 : List (List UInt8 × List (List UInt8) × Int × Int)) (x3 : List UInt8 × List (List UInt8) × Int × Int) : Option Bool := (slices_Contains_string k x1 n0).bind fun r_1 => (if r_1 = true then some true else (impl_itemNamed_r k x2 n0).bind fun r_2 => some (decide (x3.2.2.1 < r_2.2.2.1)))
def fe_impl_staleItems_1 (k : Nat) : FE := ⟨(.pr .str (.pr (.ptr (.sl 9 .str)) (.pr (.ptr (.sl 38 (.st (.pr .str (.pr (.sl 9 .str) (.pr (.int .i64) (.int .i64))))))) (.ptr (.st (.pr .str (.pr (.sl 9 .str) (.pr (.int .i64) (.int .i64))))))))), 1, .bool, fun x => impl_staleItems_1 k x.1 x.2.1 x.2.2.1 x.2.2.2⟩
theorem ok_impl_staleItems_1 (k : Nat) : FnOK Try.prog 59 (fe_impl_staleItems_1 k) := by
  refine closed_ok (tab := [(39, fe_slices_Contains_string k), (57, fe_impl_itemNamed_r k)]) (l := []) ti_ok ti_ht mix (List.forall_mem_cons.2 ⟨ok_slices_Contains_string k, (List.forall_mem_cons.2 ⟨ok_impl_itemNamed_r k, (List.forall_mem_nil _)⟩)⟩) (List.forall_mem_nil _) ⟨⟨Try.f59, (codeOf Try.f59), [.tmp 5], (LOn Bool), by kernel_rfl, by kernel_rfl, by kernel_rfl, by kernel_rfl, rfl, by decide, ⟨by kernel_rfl, ?_, ?_⟩, ?_⟩⟩
  · exact no_loops (by kernel_rfl)
  · exact no_cuts (by kernel_rfl)
  · rintro ⟨n0, x1, x2, x3⟩
    kernel_rfl
/- 53 slices.IndexFunc[[]string,string] -/
def slices_IndexFunc_string__impl_staleItems_1_l0 (k : Nat) : Nat → (List (List UInt8)) → (List (List UInt8) × (List (List UInt8 × List (List UInt8) × Int × Int)) × List UInt8 × List (List UInt8) × Int × Int) → Int → Int → (Option Int) → Option Int
  | 0, _, _, _, _, _ => none
  | n + 1, s0, f1, x7, x8, e_0 => (if (decide (x8 < x7)) = true then (if 0 ≤ x8 then (s0[x8.toNat]?).bind fun y_1 => (impl_staleItems_1 k y_1 f1.1 f1.2.1 f1.2.2).bind fun r_2 => (if r_2 = true then some x8 else slices_IndexFunc_string__impl_staleItems_1_l0 k n s0 f1 x7 (w_i64 (x8 + 1)) e_0) else none) else e_0)
def slices_IndexFunc_string__impl_staleItems_1 (k : Nat) (s0 : List (List UInt8)) (f1 : List (List UInt8) × (List (List UInt8 × List (List UInt8) × Int × Int)) × List UInt8 × List (List UInt8) × Int × Int) : Option Int := slices_IndexFunc_string__impl_staleItems_1_l0 k k s0 f1 (List.length s0 : Int) 0 (some (-1))
def slices_IndexFunc_string__impl_staleItems_1_l0_h : Head := ⟨[(0, (.val (.sl 9 .str))), (1, (.val (.fn 59 (.pr (.ptr (.sl 9 .str)) (.pr (.ptr (.sl 38 (.st (.pr .str (.pr (.sl 9 .str) (.pr (.int .i64) (.int .i64))))))) (.ptr (.st (.pr .str (.pr (.sl 9 .str) (.pr (.int .i64) (.int .i64))))))))))), (7, (.val (.int .i64))), (8, (.val (.int .i64)))], [], []⟩
def slices_IndexFunc_string__impl_staleItems_1_l0_x0 : Head := ⟨[], [], []⟩
def slices_IndexFunc_string__impl_staleItems_1_l0_F (k n : Nat) (x : slices_IndexFunc_string__impl_staleItems_1_l0_h.T) (kx : Nat → St → Option Int) : Option Int := slices_IndexFunc_string__impl_staleItems_1_l0 k n x.1.1 x.1.2.1 x.1.2.2.1 x.1.2.2.2.1 (kx 0 (slices_IndexFunc_string__impl_staleItems_1_l0_x0.fill ((), (), ())))
def slices_IndexFunc_string__impl_staleItems_1_O (k : Nat) : Oracles Int := ⟨fun n => bif Nat.beq n 2 then some (fun σ kx => slices_IndexFunc_string__impl_staleItems_1_l0_h.get σ fun x => slices_IndexFunc_string__impl_staleItems_1_l0_F k k x kx) else none, fun _ => none⟩
def fe_slices_IndexFunc_string__impl_staleItems_1 (k : Nat) : FE := ⟨(.pr (.sl 9 .str) (.fn 59 (.pr (.ptr (.sl 9 .str)) (.pr (.ptr (.sl 38 (.st (.pr .str (.pr (.sl 9 .str) (.pr (.int .i64) (.int .i64))))))) (.ptr (.st (.pr .str (.pr (.sl 9 .str) (.pr (.int .i64) (.int .i64)))))))))), 1, (.int .i64), fun x => slices_IndexFunc_string__impl_staleItems_1 k x.1 x.2⟩
theorem slices_IndexFunc_string__impl_staleItems_1_l0_ok (k : Nat) : LoopOK (mkEnv ti [(59, fe_impl_staleItems_1 k)] (lk []) pins0 pinB0) (slices_IndexFunc_string__impl_staleItems_1_O k) (rdC (mkEnv ti [(59, fe_impl_staleItems_1 k)] (lk []) pins0 pinB0) [.tmp 4] (.int .i64)) ((loopsOf (codeOf Try.f53)).getD 0 .skip) (fun σ kx => slices_IndexFunc_string__impl_staleItems_1_l0_h.get σ fun x => slices_IndexFunc_string__impl_staleItems_1_l0_F k k x kx) := by
  refine ⟨slices_IndexFunc_string__impl_staleItems_1_l0_h, [(0, slices_IndexFunc_string__impl_staleItems_1_l0_x0)], fun n x kx => slices_IndexFunc_string__impl_staleItems_1_l0_F k n x kx, k, by kernel_rfl, by kernel_rfl, fun x kx => by kernel_rfl, ?_, fun σ kx => rfl⟩
  rintro n ⟨⟨s0, f1, x7, x8, ⟨⟩⟩, ⟨⟩, ⟨⟩⟩ kx
  kernel_rfl
theorem ok_slices_IndexFunc_string__impl_staleItems_1 (k : Nat) : FnOK Try.prog 53 (fe_slices_IndexFunc_string__impl_staleItems_1 k) := by
  refine closed_ok (tab := [(59, fe_impl_staleItems_1 k)]) (l := []) ti_ok ti_ht mix (List.forall_mem_cons.2 ⟨ok_impl_staleItems_1 k, (List.forall_mem_nil _)⟩) (List.forall_mem_nil _) ⟨⟨Try.f53, (codeOf Try.f53), [.tmp 4], (slices_IndexFunc_string__impl_staleItems_1_O k), by kernel_rfl, by kernel_rfl, by kernel_rfl, by kernel_rfl, rfl, by decide, ⟨by kernel_rfl, ?_, ?_⟩, ?_⟩⟩
  · refine loops_of (n := 1) (by kernel_rfl) fun i hi => ?_
    match i, hi with
    | 0, _ => exact loop_of (by kernel_rfl) (slices_IndexFunc_string__impl_staleItems_1_l0_ok k)
    | n + 1, hi => omega
  · exact no_cuts (by kernel_rfl)
  · rintro ⟨s0, f1⟩
    kernel_rfl
/- 37 slices.ContainsFunc[[]string,string] -/
def slices_ContainsFunc_string__impl_staleItems_1 (k : Nat) (s0 : List (List UInt8)) (f1 : List (List UInt8) × (List (List UInt8 × List (List UInt8) × Int × Int)) × List UInt8 × List (List UInt8) × Int × Int) : Option Bool := (slices_IndexFunc_string__impl_staleItems_1 k s0 f1).bind fun r_1 => some (decide (0 ≤ r_1))
def fe_slices_ContainsFunc_string__impl_staleItems_1 (k : Nat) : FE := ⟨(.pr (.sl 9 .str) (.fn 59 (.pr (.ptr (.sl 9 .str)) (.pr (.ptr (.sl 38 (.st (.pr .str (.pr (.sl 9 .str) (.pr (.int .i64) (.int .i64))))))) (.ptr (.st (.pr .str (.pr (.sl 9 .str) (.pr (.int .i64) (.int .i64)))))))))), 1, .bool, fun x => slices_ContainsFunc_string__impl_staleItems_1 k x.1 x.2⟩
theorem ok_slices_ContainsFunc_string__impl_staleItems_1 (k : Nat) : FnOK Try.prog 37 (fe_slices_ContainsFunc_string__impl_staleItems_1 k) := by
  refine closed_ok (tab := [(53, fe_slices_IndexFunc_string__impl_staleItems_1 k)]) (l := []) ti_ok ti_ht mix (List.forall_mem_cons.2 ⟨ok_slices_IndexFunc_string__impl_staleItems_1 k, (List.forall_mem_nil _)⟩) (List.forall_mem_nil _) ⟨⟨Try.f37, (codeOf Try.f37), [.tmp 4], (LOn Bool), by kernel_rfl, by kernel_rfl, by kernel_rfl, by kernel_rfl, rfl, by decide, ⟨by kernel_rfl, ?_, ?_⟩, ?_⟩⟩
  · exact no_loops (by kernel_rfl)
  · exact no_cuts (by kernel_rfl)
  · rintro ⟨s0, f1⟩
    kernel_rfl
/- 45 loop.example/g01005/impl.staleItems -/
def impl_staleItems_l0 (k : Nat) : Nat → Int → Int → (List (List UInt8)) → (List (List UInt8)) → (List (List UInt8 × List (List UInt8) × Int × Int)) → ((List (List UInt8)) → Option (List (List UInt8))) → Option (List (List UInt8))
  | 0, _, _, _, _, _, _ => none
  | n + 1, x9, x10, q_2, q_3, v_1, e_0 => (if (decide (x10 < x9)) = true then (if 0 ≤ x10 ∧ x10.toNat < List.length q_2 then (q_2[x10.toNat]?).bind fun y_4 => (impl_itemNamed_r k v_1 y_4).bind fun r_5 => (if (decide (r_5.2.2.1 = 0)) = true then (if (q_3.length + [y_4].length) * 16 ≤ LIM then impl_staleItems_l0 k n x9 (w_i64 (x10 + 1)) q_2 (q_3 ++ [y_4]) v_1 e_0 else none) else (slices_ContainsFunc_string__impl_staleItems_1 k r_5.2.1 (q_3, (v_1, r_5))).bind fun r_6 => (if r_6 = true then (if (q_3.length + [y_4].length) * 16 ≤ LIM then impl_staleItems_l0 k n x9 (w_i64 (x10 + 1)) q_2 (q_3 ++ [y_4]) v_1 e_0 else none) else impl_staleItems_l0 k n x9 (w_i64 (x10 + 1)) q_2 q_3 v_1 e_0)) else none) else e_0 q_3)
def impl_staleItems (k : Nat) (list0 : List (List UInt8 × List (List UInt8) × Int × Int)) : Option (List (List UInt8)) := (impl_makeOrder k list0).bind fun r_1 => impl_staleItems_l0 k k (List.length r_1 : Int) 0 r_1 [] list0 (fun q_7 => some q_7)
def impl_staleItems_l0_h : Head := ⟨[(1, (.bp 1 [] 0)), (3, (.bp 3 [] 0)), (8, (.ref 64000000 [])), (9, (.val (.int .i64))), (10, (.val (.int .i64)))], [(64000000, 9, .str, false), (64000001, 9, .str, false)], [(1, 24, (.val (.sl 38 (.st (.pr .str (.pr (.sl 9 .str) (.pr (.int .i64) (.int .i64)))))))), (3, 32, (.ref 64000001 []))]⟩
def impl_staleItems_l0_x0 : Head := ⟨[(3, (.bp 3 [] 0))], [(64000000, 9, .str, false)], [(3, 32, (.ref 64000000 []))]⟩
def impl_staleItems_l0_F (k n : Nat) (x : impl_staleItems_l0_h.T) (kx : Nat → St → Option (List (List UInt8))) : Option (List (List UInt8)) := impl_staleItems_l0 k n x.1.2.2.2.1 x.1.2.2.2.2.1 x.2.1.1 x.2.1.2.1 x.2.2.1 (fun (q_7 : List (List UInt8)) => kx 0 (impl_staleItems_l0_x0.fill (((), ()), (q_7, ()), ((), ()))))
def impl_staleItems_O (k : Nat) : Oracles (List (List UInt8)) := ⟨fun n => bif Nat.beq n 3 then some (fun σ kx => impl_staleItems_l0_h.get σ fun x => impl_staleItems_l0_F k k x kx) else none, fun _ => none⟩
def fe_impl_staleItems (k : Nat) : FE := ⟨(.sl 38 (.st (.pr .str (.pr (.sl 9 .str) (.pr (.int .i64) (.int .i64)))))), 1, (.sl 9 .str), fun x => impl_staleItems k x⟩
theorem impl_staleItems_l0_ok (k : Nat) : LoopOK (mkEnv ti [(40, fe_impl_makeOrder k), (57, fe_impl_itemNamed_r k), (37, fe_slices_ContainsFunc_string__impl_staleItems_1 k)] (lk []) pins0 pinB0) (impl_staleItems_O k) (rdC (mkEnv ti [(40, fe_impl_makeOrder k), (57, fe_impl_itemNamed_r k), (37, fe_slices_ContainsFunc_string__impl_staleItems_1 k)] (lk []) pins0 pinB0) [.tmp 2] (.sl 9 .str)) ((loopsOf (codeOf Try.f45)).getD 0 .skip) (fun σ kx => impl_staleItems_l0_h.get σ fun x => impl_staleItems_l0_F k k x kx) := by
  refine ⟨impl_staleItems_l0_h, [(0, impl_staleItems_l0_x0)], fun n x kx => impl_staleItems_l0_F k n x kx, k, by kernel_rfl, by kernel_rfl, fun x kx => by kernel_rfl, ?_, fun σ kx => rfl⟩
  rintro n ⟨⟨⟨⟩, ⟨⟩, ⟨⟩, x9, x10, ⟨⟩⟩, ⟨q_2, q_3, ⟨⟩⟩, ⟨v_1, ⟨⟩, ⟨⟩⟩⟩ kx
  kernel_rfl
theorem ok_impl_staleItems (k : Nat) : FnOK Try.prog 45 (fe_impl_staleItems k) := by
  refine closed_ok (tab := [(40, fe_impl_makeOrder k), (57, fe_impl_itemNamed_r k), (37, fe_slices_ContainsFunc_string__impl_staleItems_1 k)]) (l := []) ti_ok ti_ht mix (List.forall_mem_cons.2 ⟨ok_impl_makeOrder k, (List.forall_mem_cons.2 ⟨ok_impl_itemNamed_r k, (List.forall_mem_cons.2 ⟨ok_slices_ContainsFunc_string__impl_staleItems_1 k, (List.forall_mem_nil _)⟩)⟩)⟩) (List.forall_mem_nil _) ⟨⟨Try.f45, (codeOf Try.f45), [.tmp 2], (impl_staleItems_O k), by kernel_rfl, by kernel_rfl, by kernel_rfl, by kernel_rfl, rfl, by decide, ⟨by kernel_rfl, ?_, ?_⟩, ?_⟩⟩
  · refine loops_of (n := 1) (by kernel_rfl) fun i hi => ?_
    match i, hi with
    | 0, _ => exact loop_of (by kernel_rfl) (impl_staleItems_l0_ok k)
    | n + 1, hi => omega
  · exact no_cuts (by kernel_rfl)
  · rintro list0
    kernel_rfl
/- 46 loop.example/g01005/impl.planFor$1 -/
def impl_planFor_1 (k : Nat) (n0 : List UInt8) (x1 : List (List UInt8)) : Option Bool := (slices_Contains_string k x1 n0).bind fun r_1 => some (!r_1)
def fe_impl_planFor_1 (k : Nat) : FE := ⟨(.pr .str (.ptr (.sl 9 .str))), 1, .bool, fun x => impl_planFor_1 k x.1 x.2⟩
theorem ok_impl_planFor_1 (k : Nat) : FnOK Try.prog 46 (fe_impl_planFor_1 k) := by
  refine closed_ok (tab := [(39, fe_slices_Contains_string k)]) (l := []) ti_ok ti_ht mix (List.forall_mem_cons.2 ⟨ok_slices_Contains_string k, (List.forall_mem_nil _)⟩) (List.forall_mem_nil _) ⟨⟨Try.f46, (codeOf Try.f46), [.tmp 3], (LOn Bool), by kernel_rfl, by kernel_rfl, by kernel_rfl, by kernel_rfl, rfl, by decide, ⟨by kernel_rfl, ?_, ?_⟩, ?_⟩⟩
  · exact no_loops (by kernel_rfl)
  · exact no_cuts (by kernel_rfl)
  · rintro ⟨n0, x1⟩
    kernel_rfl
/- 53 slices.IndexFunc[[]string,string] -/
def slices_IndexFunc_string__impl_planFor_1_l0 (k : Nat) : Nat → (List (List UInt8)) → (List (List UInt8)) → Int → Int → (Option Int) → Option Int
  | 0, _, _, _, _, _ => none
  | n + 1, s0, f1, x7, x8, e_0 => (if (decide (x8 < x7)) = true then (if 0 ≤ x8 then (s0[x8.toNat]?).bind fun y_1 => (impl_planFor_1 k y_1 f1).bind fun r_2 => (if r_2 = true then some x8 else slices_IndexFunc_string__impl_planFor_1_l0 k n s0 f1 x7 (w_i64 (x8 + 1)) e_0) else none) else e_0)
def slices_IndexFunc_string__impl_planFor_1 (k : Nat) (s0 : List (List UInt8)) (f1 : List (List UInt8)) : Option Int := slices_IndexFunc_string__impl_planFor_1_l0 k k s0 f1 (List.length s0 : Int) 0 (some (-1))
def slices_IndexFunc_string__impl_planFor_1_l0_h : Head := ⟨[(0, (.val (.sl 9 .str))), (1, (.val (.fn 46 (.ptr (.sl 9 .str))))), (7, (.val (.int .i64))), (8, (.val (.int .i64)))], [], []⟩
def slices_IndexFunc_string__impl_planFor_1_l0_x0 : Head := ⟨[], [], []⟩
def slices_IndexFunc_string__impl_planFor_1_l0_F (k n : Nat) (x : slices_IndexFunc_string__impl_planFor_1_l0_h.T) (kx : Nat → St → Option Int) : Option Int := slices_IndexFunc_string__impl_planFor_1_l0 k n x.1.1 x.1.2.1 x.1.2.2.1 x.1.2.2.2.1 (kx 0 (slices_IndexFunc_string__impl_planFor_1_l0_x0.fill ((), (), ())))
def slices_IndexFunc_string__impl_planFor_1_O (k : Nat) : Oracles Int := ⟨fun n => bif Nat.beq n 2 then some (fun σ kx => slices_IndexFunc_string__impl_planFor_1_l0_h.get σ fun x => slices_IndexFunc_string__impl_planFor_1_l0_F k k x kx) else none, fun _ => none⟩
def fe_slices_IndexFunc_string__impl_planFor_1 (k : Nat) : FE := ⟨(.pr (.sl 9 .str) (.fn 46 (.ptr (.sl 9 .str)))), 1, (.int .i64), fun x => slices_IndexFunc_string__impl_planFor_1 k x.1 x.2⟩
theorem slices_IndexFunc_string__impl_planFor_1_l0_ok (k : Nat) : LoopOK (mkEnv ti [(46, fe_impl_planFor_1 k)] (lk []) pins0 pinB0) (slices_IndexFunc_string__impl_planFor_1_O k) (rdC (mkEnv ti [(46, fe_impl_planFor_1 k)] (lk []) pins0 pinB0) [.tmp 4] (.int .i64)) ((loopsOf (codeOf Try.f53)).getD 0 .skip) (fun σ kx => slices_IndexFunc_string__impl_planFor_1_l0_h.get σ fun x => slices_IndexFunc_string__impl_planFor_1_l0_F k k x kx) := by
  refine ⟨slices_IndexFunc_string__impl_planFor_1_l0_h, [(0, slices_IndexFunc_string__impl_planFor_1_l0_x0)], fun n x kx => slices_IndexFunc_string__impl_planFor_1_l0_F k n x kx, k, by kernel_rfl, by kernel_rfl, fun x kx => by kernel_rfl, ?_, fun σ kx => rfl⟩
  rintro n ⟨⟨s0, f1, x7, x8, ⟨⟩⟩, ⟨⟩, ⟨⟩⟩ kx
  kernel_rfl
theorem ok_slices_IndexFunc_string__impl_planFor_1 (k : Nat) : FnOK Try.prog 53 (fe_slices_IndexFunc_string__impl_planFor_1 k) := by
  refine closed_ok (tab := [(46, fe_impl_planFor_1 k)]) (l := []) ti_ok ti_ht mix (List.forall_mem_cons.2 ⟨ok_impl_planFor_1 k, (List.forall_mem_nil _)⟩) (List.forall_mem_nil _) ⟨⟨Try.f53, (codeOf Try.f53), [.tmp 4], (slices_IndexFunc_string__impl_planFor_1_O k), by kernel_rfl, by kernel_rfl, by kernel_rfl, by kernel_rfl, rfl, by decide, ⟨by kernel_rfl, ?_, ?_⟩, ?_⟩⟩
  · refine loops_of (n := 1) (by kernel_rfl) fun i hi => ?_
    match i, hi with
    | 0, _ => exact loop_of (by kernel_rfl) (slices_IndexFunc_string__impl_planFor_1_l0_ok k)
    | n + 1, hi => omega
  · exact no_cuts (by kernel_rfl)
  · rintro ⟨s0, f1⟩
    kernel_rfl
/- 44 slices.DeleteFunc[[]string,string] (open) -/
def slices_DeleteFunc_string_g__impl_planFor_1_l0 (k : Nat) : Nat → Int → Int → (List (List UInt8)) → (List (List UInt8)) → (Int → (List (List UInt8)) → (List (List UInt8)) → Option (((Unit × Unit) × ((List (List UInt8)) × Unit) × Unit))) → Option (((Unit × Unit) × ((List (List UInt8)) × Unit) × Unit))
  | 0, _, _, _, _, _ => none
  | n + 1, i5, j6, q_5, q_6, e_0 => (if (decide (j6 < (List.length q_5 : Int))) = true then (if 0 ≤ j6 ∧ j6.toNat < List.length q_5 then (q_5[j6.toNat]?).bind fun y_7 => (impl_planFor_1 k y_7 q_6).bind fun r_8 => (if (!r_8) = true then (if 0 ≤ i5 ∧ i5.toNat < List.length q_5 then (q_5[i5.toNat]?).bind fun y_9 => (q_5[i5.toNat]?).bind fun y_10 => slices_DeleteFunc_string_g__impl_planFor_1_l0 k n (w_i64 (i5 + 1)) (w_i64 (j6 + 1)) (q_5.set i5.toNat y_7) q_6 e_0 else none) else slices_DeleteFunc_string_g__impl_planFor_1_l0 k n i5 (w_i64 (j6 + 1)) q_5 q_6 e_0) else none) else e_0 i5 q_5 q_6)
def slices_DeleteFunc_string_g__impl_planFor_1 (k : Nat) (q_1 : List (List UInt8)) (q_2 : List (List UInt8)) : Option (((Unit × Unit) × ((List (List UInt8)) × Unit) × Unit)) := (slices_IndexFunc_string__impl_planFor_1 k q_1 q_2).bind fun r_3 => (if (decide (r_3 = (-1))) = true then some (((), ()), (q_1, ()), ()) else slices_DeleteFunc_string_g__impl_planFor_1_l0 k k r_3 (w_i64 (r_3 + 1)) q_1 q_2 (fun i_11 q_12 q_13 => (if 0 ≤ i_11 ∧ i_11 ≤ (q_12.length : Int) ∧ (q_12.length : Int) ≤ q_12.length then (if 0 ≤ (0 : Int) ∧ (0 : Int) ≤ i_11 ∧ i_11 ≤ (overL q_12 i_11.toNat (List.replicate (q_12.length - i_11.toNat) ([] : List UInt8))).length then some (((), ()), (((overL q_12 i_11.toNat (List.replicate (q_12.length - i_11.toNat) ([] : List UInt8))).take i_11.toNat), ()), ()) else none) else none)))
def slices_DeleteFunc_string_g__impl_planFor_1_l0_h : Head := ⟨[(0, (.ref 1000000000 [])), (1, (.clo 46 (.bp 1000000000 [] 0))), (5, (.val (.int .i64))), (6, (.val (.int .i64)))], [(1000000000, 9, .str, false), (1000000001, 9, .str, false)], [(1000000000, 32, (.ref 1000000001 []))]⟩
def slices_DeleteFunc_string_g__impl_planFor_1_l0_x0 : Head := ⟨[(0, (.ref 1000000000 [])), (5, (.val (.int .i64)))], [(1000000000, 9, .str, false), (1000000001, 9, .str, false)], [(1000000000, 32, (.ref 1000000001 []))]⟩
def slices_DeleteFunc_string_g__impl_planFor_1_l0_F (k n : Nat) (x : slices_DeleteFunc_string_g__impl_planFor_1_l0_h.T) (kx : Nat → St → Option (((Unit × Unit) × ((List (List UInt8)) × Unit) × Unit))) : Option (((Unit × Unit) × ((List (List UInt8)) × Unit) × Unit)) := slices_DeleteFunc_string_g__impl_planFor_1_l0 k n x.1.2.2.1 x.1.2.2.2.1 x.2.1.1 x.2.1.2.1 (fun (i5 : Int) (q_11 : List (List UInt8)) (q_12 : List (List UInt8)) => kx 0 (slices_DeleteFunc_string_g__impl_planFor_1_l0_x0.fill (((), i5, ()), (q_11, q_12, ()), ((), ()))))
def slices_DeleteFunc_string_g__impl_planFor_1_O (k : Nat) : Oracles (((Unit × Unit) × ((List (List UInt8)) × Unit) × Unit)) := ⟨fun n => bif Nat.beq n 5 then some (fun σ kx => slices_DeleteFunc_string_g__impl_planFor_1_l0_h.get σ fun x => slices_DeleteFunc_string_g__impl_planFor_1_l0_F k k x kx) else none, fun _ => none⟩
def slices_DeleteFunc_string_g__impl_planFor_1_hi : Head := ⟨[(0, (.ref 1000000000 [])), (1, (.clo 46 (.bp 1000000000 [] 0)))], [(1000000000, 9, .str, false), (1000000001, 9, .str, false)], [(1000000000, 32, (.ref 1000000001 []))]⟩
def slices_DeleteFunc_string_g__impl_planFor_1_ho : Head := ⟨[(0, (.ref 64000000 []))], [(64000000, 9, .str, false)], []⟩
def oc_slices_DeleteFunc_string_g__impl_planFor_1 (k : Nat) : OC := ⟨slices_DeleteFunc_string_g__impl_planFor_1_hi, slices_DeleteFunc_string_g__impl_planFor_1_ho, fun x => slices_DeleteFunc_string_g__impl_planFor_1 k x.2.1.1 x.2.1.2.1⟩
theorem slices_DeleteFunc_string_g__impl_planFor_1_l0_ok (k : Nat) (pins : Nat → Value) (pinB : Nat → Nat) : LoopOK (mkEnv ti [(53, fe_slices_IndexFunc_string__impl_planFor_1 k), (46, fe_impl_planFor_1 k)] (lk []) pins pinB) (slices_DeleteFunc_string_g__impl_planFor_1_O k) (rdG (mkEnv ti [(53, fe_slices_IndexFunc_string__impl_planFor_1 k), (46, fe_impl_planFor_1 k)] (lk []) pins pinB) [.tmp 4] 1 (.sl 9 .str) slices_DeleteFunc_string_g__impl_planFor_1_ho) ((loopsOf (codeOf Try.f44)).getD 0 .skip) (fun σ kx => slices_DeleteFunc_string_g__impl_planFor_1_l0_h.get σ fun x => slices_DeleteFunc_string_g__impl_planFor_1_l0_F k k x kx) := by
  refine ⟨slices_DeleteFunc_string_g__impl_planFor_1_l0_h, [(0, slices_DeleteFunc_string_g__impl_planFor_1_l0_x0)], fun n x kx => slices_DeleteFunc_string_g__impl_planFor_1_l0_F k n x kx, k, by kernel_rfl, by kernel_rfl, fun x kx => by kernel_rfl, ?_, fun σ kx => rfl⟩
  rintro n ⟨⟨⟨⟩, ⟨⟩, i5, j6, ⟨⟩⟩, ⟨q_5, q_6, ⟨⟩⟩, ⟨⟨⟩, ⟨⟩⟩⟩ kx
  kernel_rfl
theorem ok_slices_DeleteFunc_string_g__impl_planFor_1 (k : Nat) : OpenOK Try.prog ti 44 (oc_slices_DeleteFunc_string_g__impl_planFor_1 k) := by
  refine give_ok (tab := [(53, fe_slices_IndexFunc_string__impl_planFor_1 k), (46, fe_impl_planFor_1 k)]) (l := []) (n := 1) (t := (.sl 9 .str)) ti_ok ti_ht mix (List.forall_mem_cons.2 ⟨ok_slices_IndexFunc_string__impl_planFor_1 k, (List.forall_mem_cons.2 ⟨ok_impl_planFor_1 k, (List.forall_mem_nil _)⟩)⟩) (List.forall_mem_nil _) ⟨by kernel_rfl, by kernel_rfl, by kernel_rfl, by kernel_rfl, Try.f44, (codeOf Try.f44), [.tmp 4], (slices_DeleteFunc_string_g__impl_planFor_1_O k), by kernel_rfl, by kernel_rfl, by kernel_rfl, by kernel_rfl, by kernel_rfl, Nat.le_of_ble_eq_true (by kernel_rfl), fun pins pinB => ⟨⟨by kernel_rfl, ?_, ?_⟩, ?_⟩⟩
  · refine loops_of (n := 1) (by kernel_rfl) fun i hi => ?_
    match i, hi with
    | 0, _ => exact loop_of (by kernel_rfl) (slices_DeleteFunc_string_g__impl_planFor_1_l0_ok k pins pinB)
    | n + 1, hi => omega
  · exact no_cuts (by kernel_rfl)
  · rintro ⟨⟨⟨⟩, ⟨⟩, ⟨⟩⟩, ⟨q_1, q_2, ⟨⟩⟩, ⟨⟨⟩, ⟨⟩⟩⟩
    kernel_rfl
/- 24 loop.example/g01005/impl.planFor -/
def impl_planFor (k : Nat) (list0 : List (List UInt8 × List (List UInt8) × Int × Int)) (name1 : List UInt8) : Option (List (List UInt8)) := (impl_allNeeds k list0 name1).bind fun r_1 => (if (r_1.length + [name1].length) * 16 ≤ LIM then (impl_staleItems k list0).bind fun r_2 => (slices_DeleteFunc_string_g__impl_planFor_1 k r_2 (r_1 ++ [name1])).bind fun y_3 => some y_3.2.1.1 else none)
def fe_impl_planFor (k : Nat) : FE := ⟨(.pr (.sl 38 (.st (.pr .str (.pr (.sl 9 .str) (.pr (.int .i64) (.int .i64)))))) .str), 1, (.sl 9 .str), fun x => impl_planFor k x.1 x.2⟩
theorem ok_impl_planFor (k : Nat) : FnOK Try.prog 24 (fe_impl_planFor k) := by
  refine closed_ok (tab := [(43, fe_impl_allNeeds k), (45, fe_impl_staleItems k)]) (l := [(15, 44, oc_slices_DeleteFunc_string_g__impl_planFor_1 k)]) ti_ok ti_ht mix (List.forall_mem_cons.2 ⟨ok_impl_allNeeds k, (List.forall_mem_cons.2 ⟨ok_impl_staleItems k, (List.forall_mem_nil _)⟩)⟩) (List.forall_mem_cons.2 ⟨ok_slices_DeleteFunc_string_g__impl_planFor_1 k, (List.forall_mem_nil _)⟩) ⟨⟨Try.f24, (codeOf Try.f24), [.tmp 4], (LOn (List (List UInt8))), by kernel_rfl, by kernel_rfl, by kernel_rfl, by kernel_rfl, rfl, by decide, ⟨by kernel_rfl, ?_, ?_⟩, ?_⟩⟩
  · exact no_loops (by kernel_rfl)
  · exact no_cuts (by kernel_rfl)
  · rintro ⟨list0, name1⟩
    kernel_rfl
end
end Go.Proofs.Ytmfkljkpdigenaa.Ev
