/- Functions of the program, as plain ones. No conditions. -/
import Derived.Test.YthninpdhnfbbjaaG3
import Derived.KernelRfl
set_option linter.unusedVariables false
set_option maxRecDepth 100000
namespace Go.Proofs.Ythninpdhnfbbjaa.Ev
open Go.RowKit
noncomputable section
/- 46 slices.IndexFunc[[]string,string] -/
def slices_IndexFunc_string__impl_staleItems_1_l0 (k : Nat) : Nat → (List (List UInt8)) → (List (List UInt8) × (List (List UInt8 × List (List UInt8) × Int × Int)) × List UInt8 × List (List UInt8) × Int × Int) → Int → Int → (Option Int) → Option Int
  | 0, _, _, _, _, _ => none
  | n + 1, s0, f1, x7, x8, e_0 => (if (decide (x8 < x7)) = true then (if 0 ≤ x8 then (s0[x8.toNat]?).bind fun y_1 => (impl_staleItems_1 k y_1 f1.1 f1.2.1 f1.2.2).bind fun r_2 => (if r_2 = true then some x8 else slices_IndexFunc_string__impl_staleItems_1_l0 k n s0 f1 x7 (w_i64 (x8 + 1)) e_0) else none) else e_0)
def slices_IndexFunc_string__impl_staleItems_1 (k : Nat) (s0 : List (List UInt8)) (f1 : List (List UInt8) × (List (List UInt8 × List (List UInt8) × Int × Int)) × List UInt8 × List (List UInt8) × Int × Int) : Option Int := slices_IndexFunc_string__impl_staleItems_1_l0 k k s0 f1 (List.length s0 : Int) 0 (some (-1))
def slices_IndexFunc_string__impl_staleItems_1_l0_h : Head := ⟨[(0, (.val (.sl 9 .str))), (1, (.val (.fn 47 (.pr (.ptr (.sl 9 .str)) (.pr (.ptr (.sl 41 (.st (.pr .str (.pr (.sl 9 .str) (.pr (.int .i64) (.int .i64))))))) (.ptr (.st (.pr .str (.pr (.sl 9 .str) (.pr (.int .i64) (.int .i64))))))))))), (7, (.val (.int .i64))), (8, (.val (.int .i64)))], [], []⟩
def slices_IndexFunc_string__impl_staleItems_1_l0_x0 : Head := ⟨[], [], []⟩
def slices_IndexFunc_string__impl_staleItems_1_l0_F (k n : Nat) (x : slices_IndexFunc_string__impl_staleItems_1_l0_h.T) (kx : Nat → St → Option Int) : Option Int := slices_IndexFunc_string__impl_staleItems_1_l0 k n x.1.1 x.1.2.1 x.1.2.2.1 x.1.2.2.2.1 (kx 0 (slices_IndexFunc_string__impl_staleItems_1_l0_x0.fill ((), (), ())))
def slices_IndexFunc_string__impl_staleItems_1_O (k : Nat) : Oracles Int := ⟨fun n => bif Nat.beq n 2 then some (fun σ kx => slices_IndexFunc_string__impl_staleItems_1_l0_h.get σ fun x => slices_IndexFunc_string__impl_staleItems_1_l0_F k k x kx) else none, fun _ => none⟩
def fe_slices_IndexFunc_string__impl_staleItems_1 (k : Nat) : FE := ⟨(.pr (.sl 9 .str) (.fn 47 (.pr (.ptr (.sl 9 .str)) (.pr (.ptr (.sl 41 (.st (.pr .str (.pr (.sl 9 .str) (.pr (.int .i64) (.int .i64))))))) (.ptr (.st (.pr .str (.pr (.sl 9 .str) (.pr (.int .i64) (.int .i64)))))))))), 1, (.int .i64), fun x => slices_IndexFunc_string__impl_staleItems_1 k x.1 x.2⟩
theorem slices_IndexFunc_string__impl_staleItems_1_l0_ok (k : Nat) : LoopOK (mkEnv ti [(47, fe_impl_staleItems_1 k)] (lk []) pins0 pinB0) (slices_IndexFunc_string__impl_staleItems_1_O k) (rdC (mkEnv ti [(47, fe_impl_staleItems_1 k)] (lk []) pins0 pinB0) [.tmp 4] (.int .i64)) ((loopsOf (codeOf Try.f46)).getD 0 .skip) (fun σ kx => slices_IndexFunc_string__impl_staleItems_1_l0_h.get σ fun x => slices_IndexFunc_string__impl_staleItems_1_l0_F k k x kx) := by
  refine ⟨slices_IndexFunc_string__impl_staleItems_1_l0_h, [(0, slices_IndexFunc_string__impl_staleItems_1_l0_x0)], fun n x kx => slices_IndexFunc_string__impl_staleItems_1_l0_F k n x kx, k, by kernel_rfl, by kernel_rfl, fun x kx => by kernel_rfl, ?_, fun σ kx => rfl⟩
  rintro n ⟨⟨s0, f1, x7, x8, ⟨⟩⟩, ⟨⟩, ⟨⟩⟩ kx
  kernel_rfl
theorem ok_slices_IndexFunc_string__impl_staleItems_1 (k : Nat) : FnOK Try.prog 46 (fe_slices_IndexFunc_string__impl_staleItems_1 k) := by
  refine closed_ok (tab := [(47, fe_impl_staleItems_1 k)]) (l := []) ti_ok ti_ht mix (List.forall_mem_cons.2 ⟨ok_impl_staleItems_1 k, (List.forall_mem_nil _)⟩) (List.forall_mem_nil _) ⟨⟨Try.f46, (codeOf Try.f46), [.tmp 4], (slices_IndexFunc_string__impl_staleItems_1_O k), by kernel_rfl, by kernel_rfl, by kernel_rfl, by kernel_rfl, rfl, by decide, ⟨by kernel_rfl, ?_, ?_⟩, ?_⟩⟩
  · refine loops_of (n := 1) (by kernel_rfl) fun i hi => ?_
    match i, hi with
    | 0, _ => exact loop_of (by kernel_rfl) (slices_IndexFunc_string__impl_staleItems_1_l0_ok k)
    | n + 1, hi => omega
  · exact no_cuts (by kernel_rfl)
  · rintro ⟨s0, f1⟩
    kernel_rfl
/- 39 slices.ContainsFunc[[]string,string] -/
def slices_ContainsFunc_string__impl_staleItems_1 (k : Nat) (s0 : List (List UInt8)) (f1 : List (List UInt8) × (List (List UInt8 × List (List UInt8) × Int × Int)) × List UInt8 × List (List UInt8) × Int × Int) : Option Bool := (slices_IndexFunc_string__impl_staleItems_1 k s0 f1).bind fun r_1 => some (decide (0 ≤ r_1))
def fe_slices_ContainsFunc_string__impl_staleItems_1 (k : Nat) : FE := ⟨(.pr (.sl 9 .str) (.fn 47 (.pr (.ptr (.sl 9 .str)) (.pr (.ptr (.sl 41 (.st (.pr .str (.pr (.sl 9 .str) (.pr (.int .i64) (.int .i64))))))) (.ptr (.st (.pr .str (.pr (.sl 9 .str) (.pr (.int .i64) (.int .i64)))))))))), 1, .bool, fun x => slices_ContainsFunc_string__impl_staleItems_1 k x.1 x.2⟩
theorem ok_slices_ContainsFunc_string__impl_staleItems_1 (k : Nat) : FnOK Try.prog 39 (fe_slices_ContainsFunc_string__impl_staleItems_1 k) := by
  refine closed_ok (tab := [(46, fe_slices_IndexFunc_string__impl_staleItems_1 k)]) (l := []) ti_ok ti_ht mix (List.forall_mem_cons.2 ⟨ok_slices_IndexFunc_string__impl_staleItems_1 k, (List.forall_mem_nil _)⟩) (List.forall_mem_nil _) ⟨⟨Try.f39, (codeOf Try.f39), [.tmp 4], (LOn Bool), by kernel_rfl, by kernel_rfl, by kernel_rfl, by kernel_rfl, rfl, by decide, ⟨by kernel_rfl, ?_, ?_⟩, ?_⟩⟩
  · exact no_loops (by kernel_rfl)
  · exact no_cuts (by kernel_rfl)
  · rintro ⟨s0, f1⟩
    kernel_rfl
/- 33 loop.example/g01005/impl.staleItems -/
def impl_staleItems_l0 (k : Nat) : Nat → Int → Int → (List (List UInt8)) → (List (List UInt8)) → (List (List UInt8 × List (List UInt8) × Int × Int)) → ((List (List UInt8)) → Option (List (List UInt8))) → Option (List (List UInt8))
  | 0, _, _, _, _, _, _ => none
  | n + 1, x9, x10, q_2, q_3, v_1, e_0 => (if (decide (x10 < x9)) = true then (if 0 ≤ x10 ∧ x10.toNat < List.length q_2 then (q_2[x10.toNat]?).bind fun y_4 => (impl_itemNamed_r k v_1 y_4).bind fun r_5 => (if (decide (r_5.2.2.1 = 0)) = true then (if (q_3.length + [y_4].length) * 16 ≤ LIM then impl_staleItems_l0 k n x9 (w_i64 (x10 + 1)) q_2 (q_3 ++ [y_4]) v_1 e_0 else none) else (slices_ContainsFunc_string__impl_staleItems_1 k r_5.2.1 (q_3, (v_1, r_5))).bind fun r_6 => (if r_6 = true then (if (q_3.length + [y_4].length) * 16 ≤ LIM then impl_staleItems_l0 k n x9 (w_i64 (x10 + 1)) q_2 (q_3 ++ [y_4]) v_1 e_0 else none) else impl_staleItems_l0 k n x9 (w_i64 (x10 + 1)) q_2 q_3 v_1 e_0)) else none) else e_0 q_3)
def impl_staleItems (k : Nat) (list0 : List (List UInt8 × List (List UInt8) × Int × Int)) : Option (List (List UInt8)) := (impl_makeOrder k list0).bind fun r_1 => impl_staleItems_l0 k k (List.length r_1 : Int) 0 r_1 [] list0 (fun q_7 => some q_7)
def impl_staleItems_l0_h : Head := ⟨[(1, (.bp 1 [] 0)), (3, (.bp 3 [] 0)), (8, (.ref 64000000 [])), (9, (.val (.int .i64))), (10, (.val (.int .i64)))], [(64000000, 9, .str, false), (64000001, 9, .str, false)], [(1, 27, (.val (.sl 41 (.st (.pr .str (.pr (.sl 9 .str) (.pr (.int .i64) (.int .i64)))))))), (3, 24, (.ref 64000001 []))]⟩
def impl_staleItems_l0_x0 : Head := ⟨[(3, (.bp 3 [] 0))], [(64000000, 9, .str, false)], [(3, 24, (.ref 64000000 []))]⟩
def impl_staleItems_l0_F (k n : Nat) (x : impl_staleItems_l0_h.T) (kx : Nat → St → Option (List (List UInt8))) : Option (List (List UInt8)) := impl_staleItems_l0 k n x.1.2.2.2.1 x.1.2.2.2.2.1 x.2.1.1 x.2.1.2.1 x.2.2.1 (fun (q_7 : List (List UInt8)) => kx 0 (impl_staleItems_l0_x0.fill (((), ()), (q_7, ()), ((), ()))))
def impl_staleItems_O (k : Nat) : Oracles (List (List UInt8)) := ⟨fun n => bif Nat.beq n 3 then some (fun σ kx => impl_staleItems_l0_h.get σ fun x => impl_staleItems_l0_F k k x kx) else none, fun _ => none⟩
def fe_impl_staleItems (k : Nat) : FE := ⟨(.sl 41 (.st (.pr .str (.pr (.sl 9 .str) (.pr (.int .i64) (.int .i64)))))), 1, (.sl 9 .str), fun x => impl_staleItems k x⟩
theorem impl_staleItems_l0_ok (k : Nat) : LoopOK (mkEnv ti [(41, fe_impl_makeOrder k), (20, fe_impl_itemNamed_r k), (39, fe_slices_ContainsFunc_string__impl_staleItems_1 k)] (lk []) pins0 pinB0) (impl_staleItems_O k) (rdC (mkEnv ti [(41, fe_impl_makeOrder k), (20, fe_impl_itemNamed_r k), (39, fe_slices_ContainsFunc_string__impl_staleItems_1 k)] (lk []) pins0 pinB0) [.tmp 2] (.sl 9 .str)) ((loopsOf (codeOf Try.f33)).getD 0 .skip) (fun σ kx => impl_staleItems_l0_h.get σ fun x => impl_staleItems_l0_F k k x kx) := by
  refine ⟨impl_staleItems_l0_h, [(0, impl_staleItems_l0_x0)], fun n x kx => impl_staleItems_l0_F k n x kx, k, by kernel_rfl, by kernel_rfl, fun x kx => by kernel_rfl, ?_, fun σ kx => rfl⟩
  rintro n ⟨⟨⟨⟩, ⟨⟩, ⟨⟩, x9, x10, ⟨⟩⟩, ⟨q_2, q_3, ⟨⟩⟩, ⟨v_1, ⟨⟩, ⟨⟩⟩⟩ kx
  kernel_rfl
theorem ok_impl_staleItems (k : Nat) : FnOK Try.prog 33 (fe_impl_staleItems k) := by
  refine closed_ok (tab := [(41, fe_impl_makeOrder k), (20, fe_impl_itemNamed_r k), (39, fe_slices_ContainsFunc_string__impl_staleItems_1 k)]) (l := []) ti_ok ti_ht mix (List.forall_mem_cons.2 ⟨ok_impl_makeOrder k, (List.forall_mem_cons.2 ⟨ok_impl_itemNamed_r k, (List.forall_mem_cons.2 ⟨ok_slices_ContainsFunc_string__impl_staleItems_1 k, (List.forall_mem_nil _)⟩)⟩)⟩) (List.forall_mem_nil _) ⟨⟨Try.f33, (codeOf Try.f33), [.tmp 2], (impl_staleItems_O k), by kernel_rfl, by kernel_rfl, by kernel_rfl, by kernel_rfl, rfl, by decide, ⟨by kernel_rfl, ?_, ?_⟩, ?_⟩⟩
  · refine loops_of (n := 1) (by kernel_rfl) fun i hi => ?_
    match i, hi with
    | 0, _ => exact loop_of (by kernel_rfl) (impl_staleItems_l0_ok k)
    | n + 1, hi => omega
  · exact no_cuts (by kernel_rfl)
  · rintro list0
    kernel_rfl
/- 34 loop.example/g01005/impl.planFor$1 -/
def impl_planFor_1 (k : Nat) (n0 : List UInt8) (x1 : List (List UInt8)) : Option Bool := (slices_Contains_string k x1 n0).bind fun r_1 => some (!r_1)
def fe_impl_planFor_1 (k : Nat) : FE := ⟨(.pr .str (.ptr (.sl 9 .str))), 1, .bool, fun x => impl_planFor_1 k x.1 x.2⟩
theorem ok_impl_planFor_1 (k : Nat) : FnOK Try.prog 34 (fe_impl_planFor_1 k) := by
  refine closed_ok (tab := [(35, fe_slices_Contains_string k)]) (l := []) ti_ok ti_ht mix (List.forall_mem_cons.2 ⟨ok_slices_Contains_string k, (List.forall_mem_nil _)⟩) (List.forall_mem_nil _) ⟨⟨Try.f34, (codeOf Try.f34), [.tmp 3], (LOn Bool), by kernel_rfl, by kernel_rfl, by kernel_rfl, by kernel_rfl, rfl, by decide, ⟨by kernel_rfl, ?_, ?_⟩, ?_⟩⟩
  · exact no_loops (by kernel_rfl)
  · exact no_cuts (by kernel_rfl)
  · rintro ⟨n0, x1⟩
    kernel_rfl
/- 46 slices.IndexFunc[[]string,string] -/
def slices_IndexFunc_string__impl_planFor_1_l0 (k : Nat) : Nat → (List (List UInt8)) → (List (List UInt8)) → Int → Int → (Option Int) → Option Int
  | 0, _, _, _, _, _ => none
  | n + 1, s0, f1, x7, x8, e_0 => (if (decide (x8 < x7)) = true then (if 0 ≤ x8 then (s0[x8.toNat]?).bind fun y_1 => (impl_planFor_1 k y_1 f1).bind fun r_2 => (if r_2 = true then some x8 else slices_IndexFunc_string__impl_planFor_1_l0 k n s0 f1 x7 (w_i64 (x8 + 1)) e_0) else none) else e_0)
def slices_IndexFunc_string__impl_planFor_1 (k : Nat) (s0 : List (List UInt8)) (f1 : List (List UInt8)) : Option Int := slices_IndexFunc_string__impl_planFor_1_l0 k k s0 f1 (List.length s0 : Int) 0 (some (-1))
def slices_IndexFunc_string__impl_planFor_1_l0_h : Head := ⟨[(0, (.val (.sl 9 .str))), (1, (.val (.fn 34 (.ptr (.sl 9 .str))))), (7, (.val (.int .i64))), (8, (.val (.int .i64)))], [], []⟩
def slices_IndexFunc_string__impl_planFor_1_l0_x0 : Head := ⟨[], [], []⟩
def slices_IndexFunc_string__impl_planFor_1_l0_F (k n : Nat) (x : slices_IndexFunc_string__impl_planFor_1_l0_h.T) (kx : Nat → St → Option Int) : Option Int := slices_IndexFunc_string__impl_planFor_1_l0 k n x.1.1 x.1.2.1 x.1.2.2.1 x.1.2.2.2.1 (kx 0 (slices_IndexFunc_string__impl_planFor_1_l0_x0.fill ((), (), ())))
def slices_IndexFunc_string__impl_planFor_1_O (k : Nat) : Oracles Int := ⟨fun n => bif Nat.beq n 2 then some (fun σ kx => slices_IndexFunc_string__impl_planFor_1_l0_h.get σ fun x => slices_IndexFunc_string__impl_planFor_1_l0_F k k x kx) else none, fun _ => none⟩
def fe_slices_IndexFunc_string__impl_planFor_1 (k : Nat) : FE := ⟨(.pr (.sl 9 .str) (.fn 34 (.ptr (.sl 9 .str)))), 1, (.int .i64), fun x => slices_IndexFunc_string__impl_planFor_1 k x.1 x.2⟩
theorem slices_IndexFunc_string__impl_planFor_1_l0_ok (k : Nat) : LoopOK (mkEnv ti [(34, fe_impl_planFor_1 k)] (lk []) pins0 pinB0) (slices_IndexFunc_string__impl_planFor_1_O k) (rdC (mkEnv ti [(34, fe_impl_planFor_1 k)] (lk []) pins0 pinB0) [.tmp 4] (.int .i64)) ((loopsOf (codeOf Try.f46)).getD 0 .skip) (fun σ kx => slices_IndexFunc_string__impl_planFor_1_l0_h.get σ fun x => slices_IndexFunc_string__impl_planFor_1_l0_F k k x kx) := by
  refine ⟨slices_IndexFunc_string__impl_planFor_1_l0_h, [(0, slices_IndexFunc_string__impl_planFor_1_l0_x0)], fun n x kx => slices_IndexFunc_string__impl_planFor_1_l0_F k n x kx, k, by kernel_rfl, by kernel_rfl, fun x kx => by kernel_rfl, ?_, fun σ kx => rfl⟩
  rintro n ⟨⟨s0, f1, x7, x8, ⟨⟩⟩, ⟨⟩, ⟨⟩⟩ kx
  kernel_rfl
theorem ok_slices_IndexFunc_string__impl_planFor_1 (k : Nat) : FnOK Try.prog 46 (fe_slices_IndexFunc_string__impl_planFor_1 k) := by
  refine closed_ok (tab := [(34, fe_impl_planFor_1 k)]) (l := []) ti_ok ti_ht mix (List.forall_mem_cons.2 ⟨ok_impl_planFor_1 k, (List.forall_mem_nil _)⟩) (List.forall_mem_nil _) ⟨⟨Try.f46, (codeOf Try.f46), [.tmp 4], (slices_IndexFunc_string__impl_planFor_1_O k), by kernel_rfl, by kernel_rfl, by kernel_rfl, by kernel_rfl, rfl, by decide, ⟨by kernel_rfl, ?_, ?_⟩, ?_⟩⟩
  · refine loops_of (n := 1) (by kernel_rfl) fun i hi => ?_
    match i, hi with
    | 0, _ => exact loop_of (by kernel_rfl) (slices_IndexFunc_string__impl_planFor_1_l0_ok k)
    | n + 1, hi => omega
  · exact no_cuts (by kernel_rfl)
  · rintro ⟨s0, f1⟩
    kernel_rfl
/- 32 slices.DeleteFunc[[]string,string] (open) -/
def slices_DeleteFunc_string_g__impl_planFor_1_l0 (k : Nat) : Nat → Int → Int → (List (List UInt8)) → (List (List UInt8)) → (Int → (List (List UInt8)) → (List (List UInt8)) → Option (((Unit × Unit) × ((List (List UInt8)) × Unit) × Unit))) → Option (((Unit × Unit) × ((List (List UInt8)) × Unit) × Unit))
  | 0, _, _, _, _, _ => none
  | n + 1, i5, j6, q_5, q_6, e_0 => (if (decide (j6 < (List.length q_5 : Int))) = true then (if 0 ≤ j6 ∧ j6.toNat < List.length q_5 then (q_5[j6.toNat]?).bind fun y_7 => (impl_planFor_1 k y_7 q_6).bind fun r_8 => (if (!r_8) = true then (if 0 ≤ i5 ∧ i5.toNat < List.length q_5 then (q_5[i5.toNat]?).bind fun y_9 => (q_5[i5.toNat]?).bind fun y_10 => slices_DeleteFunc_string_g__impl_planFor_1_l0 k n (w_i64 (i5 + 1)) (w_i64 (j6 + 1)) (q_5.set i5.toNat y_7) q_6 e_0 else none) else slices_DeleteFunc_string_g__impl_planFor_1_l0 k n i5 (w_i64 (j6 + 1)) q_5 q_6 e_0) else none) else e_0 i5 q_5 q_6)
def slices_DeleteFunc_string_g__impl_planFor_1 (k : Nat) (q_1 : List (List UInt8)) (q_2 : List (List UInt8)) : Option (((Unit × Unit) × ((List (List UInt8)) × Unit) × Unit)) := (slices_IndexFunc_string__impl_planFor_1 k q_1 q_2).bind fun r_3 => (if (decide (r_3 = (-1))) = true then some (((), ()), (q_1, ()), ()) else slices_DeleteFunc_string_g__impl_planFor_1_l0 k k r_3 (w_i64 (r_3 + 1)) q_1 q_2 (fun i_11 q_12 q_13 => (if 0 ≤ i_11 ∧ i_11 ≤ (q_12.length : Int) ∧ (q_12.length : Int) ≤ q_12.length then (if 0 ≤ (0 : Int) ∧ (0 : Int) ≤ i_11 ∧ i_11 ≤ (overL q_12 i_11.toNat (List.replicate (q_12.length - i_11.toNat) ([] : List UInt8))).length then some (((), ()), (((overL q_12 i_11.toNat (List.replicate (q_12.length - i_11.toNat) ([] : List UInt8))).take i_11.toNat), ()), ()) else none) else none)))
def slices_DeleteFunc_string_g__impl_planFor_1_l0_h : Head := ⟨[(0, (.ref 1000000000 [])), (1, (.clo 34 (.bp 1000000000 [] 0))), (5, (.val (.int .i64))), (6, (.val (.int .i64)))], [(1000000000, 9, .str, false), (1000000001, 9, .str, false)], [(1000000000, 24, (.ref 1000000001 []))]⟩
def slices_DeleteFunc_string_g__impl_planFor_1_l0_x0 : Head := ⟨[(0, (.ref 1000000000 [])), (5, (.val (.int .i64)))], [(1000000000, 9, .str, false), (1000000001, 9, .str, false)], [(1000000000, 24, (.ref 1000000001 []))]⟩
def slices_DeleteFunc_string_g__impl_planFor_1_l0_F (k n : Nat) (x : slices_DeleteFunc_string_g__impl_planFor_1_l0_h.T) (kx : Nat → St → Option (((Unit × Unit) × ((List (List UInt8)) × Unit) × Unit))) : Option (((Unit × Unit) × ((List (List UInt8)) × Unit) × Unit)) := slices_DeleteFunc_string_g__impl_planFor_1_l0 k n x.1.2.2.1 x.1.2.2.2.1 x.2.1.1 x.2.1.2.1 (fun (i5 : Int) (q_11 : List (List UInt8)) (q_12 : List (List UInt8)) => kx 0 (slices_DeleteFunc_string_g__impl_planFor_1_l0_x0.fill (((), i5, ()), (q_11, q_12, ()), ((), ()))))
def slices_DeleteFunc_string_g__impl_planFor_1_O (k : Nat) : Oracles (((Unit × Unit) × ((List (List UInt8)) × Unit) × Unit)) := ⟨fun n => bif Nat.beq n 5 then some (fun σ kx => slices_DeleteFunc_string_g__impl_planFor_1_l0_h.get σ fun x => slices_DeleteFunc_string_g__impl_planFor_1_l0_F k k x kx) else none, fun _ => none⟩
def slices_DeleteFunc_string_g__impl_planFor_1_hi : Head := ⟨[(0, (.ref 1000000000 [])), (1, (.clo 34 (.bp 1000000000 [] 0)))], [(1000000000, 9, .str, false), (1000000001, 9, .str, false)], [(1000000000, 24, (.ref 1000000001 []))]⟩
def slices_DeleteFunc_string_g__impl_planFor_1_ho : Head := ⟨[(0, (.ref 64000000 []))], [(64000000, 9, .str, false)], []⟩
def oc_slices_DeleteFunc_string_g__impl_planFor_1 (k : Nat) : OC := ⟨slices_DeleteFunc_string_g__impl_planFor_1_hi, slices_DeleteFunc_string_g__impl_planFor_1_ho, fun x => slices_DeleteFunc_string_g__impl_planFor_1 k x.2.1.1 x.2.1.2.1⟩
theorem slices_DeleteFunc_string_g__impl_planFor_1_l0_ok (k : Nat) (pins : Nat → Value) (pinB : Nat → Nat) : LoopOK (mkEnv ti [(46, fe_slices_IndexFunc_string__impl_planFor_1 k), (34, fe_impl_planFor_1 k)] (lk []) pins pinB) (slices_DeleteFunc_string_g__impl_planFor_1_O k) (rdG (mkEnv ti [(46, fe_slices_IndexFunc_string__impl_planFor_1 k), (34, fe_impl_planFor_1 k)] (lk []) pins pinB) [.tmp 4] 1 (.sl 9 .str) slices_DeleteFunc_string_g__impl_planFor_1_ho) ((loopsOf (codeOf Try.f32)).getD 0 .skip) (fun σ kx => slices_DeleteFunc_string_g__impl_planFor_1_l0_h.get σ fun x => slices_DeleteFunc_string_g__impl_planFor_1_l0_F k k x kx) := by
  refine ⟨slices_DeleteFunc_string_g__impl_planFor_1_l0_h, [(0, slices_DeleteFunc_string_g__impl_planFor_1_l0_x0)], fun n x kx => slices_DeleteFunc_string_g__impl_planFor_1_l0_F k n x kx, k, by kernel_rfl, by kernel_rfl, fun x kx => by kernel_rfl, ?_, fun σ kx => rfl⟩
  rintro n ⟨⟨⟨⟩, ⟨⟩, i5, j6, ⟨⟩⟩, ⟨q_5, q_6, ⟨⟩⟩, ⟨⟨⟩, ⟨⟩⟩⟩ kx
  kernel_rfl
theorem ok_slices_DeleteFunc_string_g__impl_planFor_1 (k : Nat) : OpenOK Try.prog ti 32 (oc_slices_DeleteFunc_string_g__impl_planFor_1 k) := by
  refine give_ok (tab := [(46, fe_slices_IndexFunc_string__impl_planFor_1 k), (34, fe_impl_planFor_1 k)]) (l := []) (n := 1) (t := (.sl 9 .str)) ti_ok ti_ht mix (List.forall_mem_cons.2 ⟨ok_slices_IndexFunc_string__impl_planFor_1 k, (List.forall_mem_cons.2 ⟨ok_impl_planFor_1 k, (List.forall_mem_nil _)⟩)⟩) (List.forall_mem_nil _) ⟨by kernel_rfl, by kernel_rfl, by kernel_rfl, by kernel_rfl, Try.f32, (codeOf Try.f32), [.tmp 4], (slices_DeleteFunc_string_g__impl_planFor_1_O k), by kernel_rfl, by kernel_rfl, by kernel_rfl, by kernel_rfl, by kernel_rfl, Nat.le_of_ble_eq_true (by kernel_rfl), fun pins pinB => ⟨⟨by kernel_rfl, ?_, ?_⟩, ?_⟩⟩
  · refine loops_of (n := 1) (by kernel_rfl) fun i hi => ?_
    match i, hi with
    | 0, _ => exact loop_of (by kernel_rfl) (slices_DeleteFunc_string_g__impl_planFor_1_l0_ok k pins pinB)
    | n + 1, hi => omega
  · exact no_cuts (by kernel_rfl)
  · rintro ⟨⟨⟨⟩, ⟨⟩, ⟨⟩⟩, ⟨q_1, q_2, ⟨⟩⟩, ⟨⟨⟩, ⟨⟩⟩⟩
    kernel_rfl
/- 19 loop.example/g01005/impl.planFor -/
def impl_planFor (k : Nat) (list0 : List (List UInt8 × List (List UInt8) × Int × Int)) (name1 : List UInt8) : Option (List (List UInt8)) := (impl_allNeeds k list0 name1).bind fun r_1 => (if (r_1.length + [name1].length) * 16 ≤ LIM then (impl_staleItems k list0).bind fun r_2 => (slices_DeleteFunc_string_g__impl_planFor_1 k r_2 (r_1 ++ [name1])).bind fun y_3 => some y_3.2.1.1 else none)
def fe_impl_planFor (k : Nat) : FE := ⟨(.pr (.sl 41 (.st (.pr .str (.pr (.sl 9 .str) (.pr (.int .i64) (.int .i64)))))) .str), 1, (.sl 9 .str), fun x => impl_planFor k x.1 x.2⟩
theorem ok_impl_planFor (k : Nat) : FnOK Try.prog 19 (fe_impl_planFor k) := by
  refine closed_ok (tab := [(31, fe_impl_allNeeds k), (33, fe_impl_staleItems k)]) (l := [(15, 32, oc_slices_DeleteFunc_string_g__impl_planFor_1 k)]) ti_ok ti_ht mix (List.forall_mem_cons.2 ⟨ok_impl_allNeeds k, (List.forall_mem_cons.2 ⟨ok_impl_staleItems k, (List.forall_mem_nil _)⟩)⟩) (List.forall_mem_cons.2 ⟨ok_slices_DeleteFunc_string_g__impl_planFor_1 k, (List.forall_mem_nil _)⟩) ⟨⟨Try.f19, (codeOf Try.f19), [.tmp 4], (LOn (List (List UInt8))), by kernel_rfl, by kernel_rfl, by kernel_rfl, by kernel_rfl, rfl, by decide, ⟨by kernel_rfl, ?_, ?_⟩, ?_⟩⟩
  · exact no_loops (by kernel_rfl)
  · exact no_cuts (by kernel_rfl)
  · rintro ⟨list0, name1⟩
    kernel_rfl
/- 7 loop.example/g01005/impl.MakePlan -/
def impl_MakePlan_l0 (k : Nat) : Nat → (List (List UInt8 × List (List UInt8) × Int × Int)) → Int → Int → Int → (List (List UInt8)) → (Int → (List (List UInt8)) → Option (List (List UInt8) × Int × Int)) → Option (List (List UInt8) × Int × Int)
  | 0, _, _, _, _, _, _ => none
  | n + 1, list0, cost9, x22, x23, q_3, e_0 => (if (decide (x23 < x22)) = true then (if 0 ≤ x23 ∧ x23.toNat < List.length q_3 then (q_3[x23.toNat]?).bind fun y_4 => (impl_itemNamed_r k list0 y_4).bind fun r_5 => impl_MakePlan_l0 k n list0 (w_i64 (cost9 + r_5.2.2.2)) x22 (w_i64 (x23 + 1)) q_3 e_0 else none) else e_0 cost9 q_3)
def impl_MakePlan (k : Nat) (list0 : List (List UInt8 × List (List UInt8) × Int × Int)) (name1 : List UInt8) : Option (List (List UInt8) × Int × Int) := (impl_itemized k list0 name1).bind fun r_1 => (if (!(decide (r_1 = 0))) = true then some ([], 0, r_1) else (impl_planFor k list0 name1).bind fun r_2 => impl_MakePlan_l0 k k list0 0 (List.length r_2 : Int) 0 r_2 (fun cost_6 q_7 => some (q_7, cost_6, 0)))
def impl_MakePlan_l0_h : Head := ⟨[(0, (.val (.sl 41 (.st (.pr .str (.pr (.sl 9 .str) (.pr (.int .i64) (.int .i64)))))))), (8, (.ref 64000000 [])), (9, (.val (.int .i64))), (21, (.ref 64000000 [])), (22, (.val (.int .i64))), (23, (.val (.int .i64)))], [(64000000, 9, .str, false)], []⟩
def impl_MakePlan_l0_x0 : Head := ⟨[(8, (.ref 64000000 [])), (9, (.val (.int .i64)))], [(64000000, 9, .str, false)], []⟩
def impl_MakePlan_l0_F (k n : Nat) (x : impl_MakePlan_l0_h.T) (kx : Nat → St → Option (List (List UInt8) × Int × Int)) : Option (List (List UInt8) × Int × Int) := impl_MakePlan_l0 k n x.1.1 x.1.2.2.1 x.1.2.2.2.2.1 x.1.2.2.2.2.2.1 x.2.1.1 (fun (cost9 : Int) (q_6 : List (List UInt8)) => kx 0 (impl_MakePlan_l0_x0.fill (((), cost9, ()), (q_6, ()), ())))
def impl_MakePlan_O (k : Nat) : Oracles (List (List UInt8) × Int × Int) := ⟨fun n => bif Nat.beq n 7 then some (fun σ kx => impl_MakePlan_l0_h.get σ fun x => impl_MakePlan_l0_F k k x kx) else none, fun _ => none⟩
def fe_impl_MakePlan (k : Nat) : FE := ⟨(.pr (.sl 41 (.st (.pr .str (.pr (.sl 9 .str) (.pr (.int .i64) (.int .i64)))))) .str), 3, (.pr (.sl 9 .str) (.pr (.int .i64) (.int .i64))), fun x => impl_MakePlan k x.1 x.2⟩
theorem impl_MakePlan_l0_ok (k : Nat) : LoopOK (mkEnv ti [(18, fe_impl_itemized k), (19, fe_impl_planFor k), (20, fe_impl_itemNamed_r k)] (lk []) pins0 pinB0) (impl_MakePlan_O k) (rdC (mkEnv ti [(18, fe_impl_itemized k), (19, fe_impl_planFor k), (20, fe_impl_itemNamed_r k)] (lk []) pins0 pinB0) [.tmp 4, .tmp 5, .tmp 6] (.pr (.sl 9 .str) (.pr (.int .i64) (.int .i64)))) ((loopsOf (codeOf Try.f7)).getD 0 .skip) (fun σ kx => impl_MakePlan_l0_h.get σ fun x => impl_MakePlan_l0_F k k x kx) := by
  refine ⟨impl_MakePlan_l0_h, [(0, impl_MakePlan_l0_x0)], fun n x kx => impl_MakePlan_l0_F k n x kx, k, by kernel_rfl, by kernel_rfl, fun x kx => by kernel_rfl, ?_, fun σ kx => rfl⟩
  rintro n ⟨⟨list0, ⟨⟩, cost9, ⟨⟩, x22, x23, ⟨⟩⟩, ⟨q_3, ⟨⟩⟩, ⟨⟩⟩ kx
  kernel_rfl
theorem ok_impl_MakePlan (k : Nat) : FnOK Try.prog 7 (fe_impl_MakePlan k) := by
  refine closed_ok (tab := [(18, fe_impl_itemized k), (19, fe_impl_planFor k), (20, fe_impl_itemNamed_r k)]) (l := []) ti_ok ti_ht mix (List.forall_mem_cons.2 ⟨ok_impl_itemized k, (List.forall_mem_cons.2 ⟨ok_impl_planFor k, (List.forall_mem_cons.2 ⟨ok_impl_itemNamed_r k, (List.forall_mem_nil _)⟩)⟩)⟩) (List.forall_mem_nil _) ⟨⟨Try.f7, (codeOf Try.f7), [.tmp 4, .tmp 5, .tmp 6], (impl_MakePlan_O k), by kernel_rfl, by kernel_rfl, by kernel_rfl, by kernel_rfl, rfl, by decide, ⟨by kernel_rfl, ?_, ?_⟩, ?_⟩⟩
  · refine loops_of (n := 1) (by kernel_rfl) fun i hi => ?_
    match i, hi with
    | 0, _ => exact loop_of (by kernel_rfl) (impl_MakePlan_l0_ok k)
    | n + 1, hi => omega
  · exact no_cuts (by kernel_rfl)
  · rintro ⟨list0, name1⟩
    kernel_rfl
/- 8 loop.example/g01005/laws.eqStringS -/
def laws_eqStringS_l0 (k : Nat) : Nat → (List (List UInt8)) → (List (List UInt8)) → Int → (Option Bool) → Option Bool
  | 0, _, _, _, _ => none
  | n + 1, a0, b1, i5, e_0 => (if (decide (i5 < (List.length a0 : Int))) = true then (if 0 ≤ i5 then (a0[i5.toNat]?).bind fun y_1 => (if 0 ≤ i5 then (b1[i5.toNat]?).bind fun y_2 => (if (!(decide (y_1 = y_2))) = true then some false else laws_eqStringS_l0 k n a0 b1 (w_i64 (i5 + 1)) e_0) else none) else none) else e_0)
def laws_eqStringS (k : Nat) (a0 : List (List UInt8)) (b1 : List (List UInt8)) : Option Bool := (if (!(decide ((List.length a0 : Int) = (List.length b1 : Int)))) = true then some false else laws_eqStringS_l0 k k a0 b1 0 (some true))
def laws_eqStringS_l0_h : Head := ⟨[(0, (.val (.sl 9 .str))), (1, (.val (.sl 9 .str))), (5, (.val (.int .i64)))], [], []⟩
def laws_eqStringS_l0_x0 : Head := ⟨[], [], []⟩
def laws_eqStringS_l0_F (k n : Nat) (x : laws_eqStringS_l0_h.T) (kx : Nat → St → Option Bool) : Option Bool := laws_eqStringS_l0 k n x.1.1 x.1.2.1 x.1.2.2.1 (kx 0 (laws_eqStringS_l0_x0.fill ((), (), ())))
def laws_eqStringS_O (k : Nat) : Oracles Bool := ⟨fun n => bif Nat.beq n 4 then some (fun σ kx => laws_eqStringS_l0_h.get σ fun x => laws_eqStringS_l0_F k k x kx) else none, fun _ => none⟩
def fe_laws_eqStringS (k : Nat) : FE := ⟨(.pr (.sl 9 .str) (.sl 9 .str)), 1, .bool, fun x => laws_eqStringS k x.1 x.2⟩
theorem laws_eqStringS_l0_ok (k : Nat) : LoopOK (mkEnv ti [] (lk []) pins0 pinB0) (laws_eqStringS_O k) (rdC (mkEnv ti [] (lk []) pins0 pinB0) [.tmp 4] .bool) ((loopsOf (codeOf Try.f8)).getD 0 .skip) (fun σ kx => laws_eqStringS_l0_h.get σ fun x => laws_eqStringS_l0_F k k x kx) := by
  refine ⟨laws_eqStringS_l0_h, [(0, laws_eqStringS_l0_x0)], fun n x kx => laws_eqStringS_l0_F k n x kx, k, by kernel_rfl, by kernel_rfl, fun x kx => by kernel_rfl, ?_, fun σ kx => rfl⟩
  rintro n ⟨⟨a0, b1, i5, ⟨⟩⟩, ⟨⟩, ⟨⟩⟩ kx
  kernel_rfl
theorem ok_laws_eqStringS (k : Nat) : FnOK Try.prog 8 (fe_laws_eqStringS k) := by
  refine closed_ok (tab := []) (l := []) ti_ok ti_ht mix (List.forall_mem_nil _) (List.forall_mem_nil _) ⟨⟨Try.f8, (codeOf Try.f8), [.tmp 4], (laws_eqStringS_O k), by kernel_rfl, by kernel_rfl, by kernel_rfl, by kernel_rfl, rfl, by decide, ⟨by kernel_rfl, ?_, ?_⟩, ?_⟩⟩
  · refine loops_of (n := 1) (by kernel_rfl) fun i hi => ?_
    match i, hi with
    | 0, _ => exact loop_of (by kernel_rfl) (laws_eqStringS_l0_ok k)
    | n + 1, hi => omega
  · exact no_cuts (by kernel_rfl)
  · rintro ⟨a0, b1⟩
    kernel_rfl
/- 21 loop.example/g01005/laws.eqItem -/
def laws_eqItem (k : Nat) (a0 : List UInt8 × List (List UInt8) × Int × Int) (b1 : List UInt8 × List (List UInt8) × Int × Int) : Option Bool := (if (!(decide (a0.1 = b1.1))) = true then some false else (laws_eqStringS k a0.2.1 b1.2.1).bind fun r_1 => (if (!r_1) = true then some false else (if (!(decide (a0.2.2.1 = b1.2.2.1))) = true then some false else (if (!(decide (a0.2.2.2 = b1.2.2.2))) = true then some false else some true))))
def fe_laws_eqItem (k : Nat) : FE := ⟨(.pr (.st (.pr .str (.pr (.sl 9 .str) (.pr (.int .i64) (.int .i64))))) (.st (.pr .str (.pr (.sl 9 .str) (.pr (.int .i64) (.int .i64)))))), 1, .bool, fun x => laws_eqItem k x.1 x.2⟩
theorem ok_laws_eqItem (k : Nat) : FnOK Try.prog 21 (fe_laws_eqItem k) := by
  refine closed_ok (tab := [(8, fe_laws_eqStringS k)]) (l := []) ti_ok ti_ht mix (List.forall_mem_cons.2 ⟨ok_laws_eqStringS k, (List.forall_mem_nil _)⟩) (List.forall_mem_nil _) ⟨⟨Try.f21, (codeOf Try.f21), [.tmp 4], (LOn Bool), by kernel_rfl, by kernel_rfl, by kernel_rfl, by kernel_rfl, rfl, by decide, ⟨by kernel_rfl, ?_, ?_⟩, ?_⟩⟩
  · exact no_loops (by kernel_rfl)
  · exact no_cuts (by kernel_rfl)
  · rintro ⟨a0, b1⟩
    kernel_rfl
/- 9 loop.example/g01005/laws.eqItemS -/
def laws_eqItemS_l0 (k : Nat) : Nat → (List (List UInt8 × List (List UInt8) × Int × Int)) → (List (List UInt8 × List (List UInt8) × Int × Int)) → Int → (Option Bool) → Option Bool
  | 0, _, _, _, _ => none
  | n + 1, a0, b1, i5, e_0 => (if (decide (i5 < (List.length a0 : Int))) = true then (if 0 ≤ i5 then (a0[i5.toNat]?).bind fun y_1 => (if 0 ≤ i5 then (b1[i5.toNat]?).bind fun y_2 => (laws_eqItem k y_1 y_2).bind fun r_3 => (if (!r_3) = true then some false else laws_eqItemS_l0 k n a0 b1 (w_i64 (i5 + 1)) e_0) else none) else none) else e_0)
def laws_eqItemS (k : Nat) (a0 : List (List UInt8 × List (List UInt8) × Int × Int)) (b1 : List (List UInt8 × List (List UInt8) × Int × Int)) : Option Bool := (if (!(decide ((List.length a0 : Int) = (List.length b1 : Int)))) = true then some false else laws_eqItemS_l0 k k a0 b1 0 (some true))
def laws_eqItemS_l0_h : Head := ⟨[(0, (.val (.sl 41 (.st (.pr .str (.pr (.sl 9 .str) (.pr (.int .i64) (.int .i64)))))))), (1, (.val (.sl 41 (.st (.pr .str (.pr (.sl 9 .str) (.pr (.int .i64) (.int .i64)))))))), (5, (.val (.int .i64)))], [], []⟩
def laws_eqItemS_l0_x0 : Head := ⟨[], [], []⟩
def laws_eqItemS_l0_F (k n : Nat) (x : laws_eqItemS_l0_h.T) (kx : Nat → St → Option Bool) : Option Bool := laws_eqItemS_l0 k n x.1.1 x.1.2.1 x.1.2.2.1 (kx 0 (laws_eqItemS_l0_x0.fill ((), (), ())))
def laws_eqItemS_O (k : Nat) : Oracles Bool := ⟨fun n => bif Nat.beq n 4 then some (fun σ kx => laws_eqItemS_l0_h.get σ fun x => laws_eqItemS_l0_F k k x kx) else none, fun _ => none⟩
def fe_laws_eqItemS (k : Nat) : FE := ⟨(.pr (.sl 41 (.st (.pr .str (.pr (.sl 9 .str) (.pr (.int .i64) (.int .i64)))))) (.sl 41 (.st (.pr .str (.pr (.sl 9 .str) (.pr (.int .i64) (.int .i64))))))), 1, .bool, fun x => laws_eqItemS k x.1 x.2⟩
theorem laws_eqItemS_l0_ok (k : Nat) : LoopOK (mkEnv ti [(21, fe_laws_eqItem k)] (lk []) pins0 pinB0) (laws_eqItemS_O k) (rdC (mkEnv ti [(21, fe_laws_eqItem k)] (lk []) pins0 pinB0) [.tmp 4] .bool) ((loopsOf (codeOf Try.f9)).getD 0 .skip) (fun σ kx => laws_eqItemS_l0_h.get σ fun x => laws_eqItemS_l0_F k k x kx) := by
  refine ⟨laws_eqItemS_l0_h, [(0, laws_eqItemS_l0_x0)], fun n x kx => laws_eqItemS_l0_F k n x kx, k, by kernel_rfl, by kernel_rfl, fun x kx => by kernel_rfl, ?_, fun σ kx => rfl⟩
  rintro n ⟨⟨a0, b1, i5, ⟨⟩⟩, ⟨⟩, ⟨⟩⟩ kx
  kernel_rfl
theorem ok_laws_eqItemS (k : Nat) : FnOK Try.prog 9 (fe_laws_eqItemS k) := by
  refine closed_ok (tab := [(21, fe_laws_eqItem k)]) (l := []) ti_ok ti_ht mix (List.forall_mem_cons.2 ⟨ok_laws_eqItem k, (List.forall_mem_nil _)⟩) (List.forall_mem_nil _) ⟨⟨Try.f9, (codeOf Try.f9), [.tmp 4], (laws_eqItemS_O k), by kernel_rfl, by kernel_rfl, by kernel_rfl, by kernel_rfl, rfl, by decide, ⟨by kernel_rfl, ?_, ?_⟩, ?_⟩⟩
  · refine loops_of (n := 1) (by kernel_rfl) fun i hi => ?_
    match i, hi with
    | 0, _ => exact loop_of (by kernel_rfl) (laws_eqItemS_l0_ok k)
    | n + 1, hi => omega
  · exact no_cuts (by kernel_rfl)
  · rintro ⟨a0, b1⟩
    kernel_rfl
/- 22 loop.example/g01005/laws.markText -/
def laws_markText_l0 (k : Nat) : Nat → Int → (List UInt8) → ((List UInt8) → Option (List UInt8)) → Option (List UInt8)
  | 0, _, _, _ => none
  | n + 1, k0, out3, e_0 => (if (decide (0 < k0)) = true then (if (to_S [(w_u8 ((w_i64 (48 + (Int.tmod k0 10)))))]).length + out3.length ≤ 9223372036854775807 then laws_markText_l0 k n (w_i64 (Int.tdiv k0 10)) ((to_S [(w_u8 ((w_i64 (48 + (Int.tmod k0 10)))))]) ++ out3) e_0 else none) else e_0 out3)
def laws_markText (k : Nat) (k0 : Int) : Option (List UInt8) := (if (decide (k0 ≤ 0)) = true then some [109, 48] else laws_markText_l0 k k k0 [] (fun out_1 => (if [109].length + out_1.length ≤ 9223372036854775807 then some ([109] ++ out_1) else none)))
def laws_markText_l0_h : Head := ⟨[(0, (.val (.int .i64))), (3, (.val .str))], [], []⟩
def laws_markText_l0_x0 : Head := ⟨[(3, (.val .str))], [], []⟩
def laws_markText_l0_F (k n : Nat) (x : laws_markText_l0_h.T) (kx : Nat → St → Option (List UInt8)) : Option (List UInt8) := laws_markText_l0 k n x.1.1 x.1.2.1 (fun (out3 : List UInt8) => kx 0 (laws_markText_l0_x0.fill ((out3, ()), (), ())))
def laws_markText_O (k : Nat) : Oracles (List UInt8) := ⟨fun n => bif Nat.beq n 4 then some (fun σ kx => laws_markText_l0_h.get σ fun x => laws_markText_l0_F k k x kx) else none, fun _ => none⟩
def fe_laws_markText (k : Nat) : FE := ⟨(.int .i64), 1, .str, fun x => laws_markText k x⟩
theorem laws_markText_l0_ok (k : Nat) : LoopOK (mkEnv ti [] (lk []) pins0 pinB0) (laws_markText_O k) (rdC (mkEnv ti [] (lk []) pins0 pinB0) [.tmp 2] .str) ((loopsOf (codeOf Try.f22)).getD 0 .skip) (fun σ kx => laws_markText_l0_h.get σ fun x => laws_markText_l0_F k k x kx) := by
  refine ⟨laws_markText_l0_h, [(0, laws_markText_l0_x0)], fun n x kx => laws_markText_l0_F k n x kx, k, by kernel_rfl, by kernel_rfl, fun x kx => by kernel_rfl, ?_, fun σ kx => rfl⟩
  rintro n ⟨⟨k0, out3, ⟨⟩⟩, ⟨⟩, ⟨⟩⟩ kx
  kernel_rfl
theorem ok_laws_markText (k : Nat) : FnOK Try.prog 22 (fe_laws_markText k) := by
  refine closed_ok (tab := []) (l := []) ti_ok ti_ht mix (List.forall_mem_nil _) (List.forall_mem_nil _) ⟨⟨Try.f22, (codeOf Try.f22), [.tmp 2], (laws_markText_O k), by kernel_rfl, by kernel_rfl, by kernel_rfl, by kernel_rfl, rfl, by decide, ⟨by kernel_rfl, ?_, ?_⟩, ?_⟩⟩
  · refine loops_of (n := 1) (by kernel_rfl) fun i hi => ?_
    match i, hi with
    | 0, _ => exact loop_of (by kernel_rfl) (laws_markText_l0_ok k)
    | n + 1, hi => omega
  · exact no_cuts (by kernel_rfl)
  · rintro k0
    kernel_rfl
/- 11 loop.example/g01005/laws.markStringS (open) -/
def laws_markStringS_o_i10_SLSII_l0 (k : Nat) : Nat → Nat → Int → Int → (List (List UInt8 × List (List UInt8) × Int × Int)) → (Int → (List (List UInt8 × List (List UInt8) × Int × Int)) → Option (((Int × Unit) × ((List (List UInt8 × List (List UInt8) × Int × Int)) × Unit) × Unit))) → Option (((Int × Unit) × ((List (List UInt8 × List (List UInt8) × Int × Int)) × Unit) × Unit))
  | 0, _, _, _, _, _ => none
  | n + 1, a0n0, k1, i5, q_2, e_0 => (q_2[a0n0]?).bind fun y_3 => (if (decide (i5 < (List.length y_3.2.1 : Int))) = true then (laws_markText k k1).bind fun r_4 => (q_2[a0n0]?).bind fun y_5 => (if 0 ≤ i5 ∧ i5.toNat < List.length y_5.2.1 then (q_2[a0n0]?).bind fun y_6 => (y_6.2.1[i5.toNat]?).bind fun y_7 => (q_2[a0n0]?).bind fun y_8 => (y_8.2.1[i5.toNat]?).bind fun y_9 => laws_markStringS_o_i10_SLSII_l0 k n a0n0 (w_i64 (k1 + 1)) (w_i64 (i5 + 1)) (q_2.set a0n0 (y_8.1, ((y_8.2.1.set i5.toNat r_4), y_8.2.2))) e_0 else none) else e_0 k1 q_2)
def laws_markStringS_o_i10_SLSII (k : Nat) (a0n0 : Nat) (k1 : Int) (q_1 : List (List UInt8 × List (List UInt8) × Int × Int)) : Option (((Int × Unit) × ((List (List UInt8 × List (List UInt8) × Int × Int)) × Unit) × Unit)) := laws_markStringS_o_i10_SLSII_l0 k k a0n0 k1 0 q_1 (fun k_10 q_11 => some ((k_10, ()), (q_11, ()), ()))
def laws_markStringS_o_i10_SLSII_l0_h : Head := ⟨[(0, (.ref 1000000000 [.ix, .f true, .f false])), (1, (.val (.int .i64))), (5, (.val (.int .i64)))], [(1000000000, 41, (.st (.pr .str (.pr (.sl 9 .str) (.pr (.int .i64) (.int .i64))))), false)], []⟩
def laws_markStringS_o_i10_SLSII_l0_x0 : Head := ⟨[(1, (.val (.int .i64)))], [(1000000000, 41, (.st (.pr .str (.pr (.sl 9 .str) (.pr (.int .i64) (.int .i64))))), false)], []⟩
def laws_markStringS_o_i10_SLSII_l0_F (k n : Nat) (x : laws_markStringS_o_i10_SLSII_l0_h.T) (kx : Nat → St → Option (((Int × Unit) × ((List (List UInt8 × List (List UInt8) × Int × Int)) × Unit) × Unit))) : Option (((Int × Unit) × ((List (List UInt8 × List (List UInt8) × Int × Int)) × Unit) × Unit)) := laws_markStringS_o_i10_SLSII_l0 k n x.1.1.1 x.1.2.1 x.1.2.2.1 x.2.1.1 (fun (k1 : Int) (q_10 : List (List UInt8 × List (List UInt8) × Int × Int)) => kx 0 (laws_markStringS_o_i10_SLSII_l0_x0.fill ((k1, ()), (q_10, ()), ())))
def laws_markStringS_o_i10_SLSII_O (k : Nat) : Oracles (((Int × Unit) × ((List (List UInt8 × List (List UInt8) × Int × Int)) × Unit) × Unit)) := ⟨fun n => bif Nat.beq n 2 then some (fun σ kx => laws_markStringS_o_i10_SLSII_l0_h.get σ fun x => laws_markStringS_o_i10_SLSII_l0_F k k x kx) else none, fun _ => none⟩
def laws_markStringS_o_i10_SLSII_hi : Head := ⟨[(0, (.ref 1000000000 [.ix, .f true, .f false])), (1, (.val (.int .i64)))], [(1000000000, 41, (.st (.pr .str (.pr (.sl 9 .str) (.pr (.int .i64) (.int .i64))))), false)], []⟩
def laws_markStringS_o_i10_SLSII_ho : Head := ⟨[(0, (.val (.int .i64)))], [(1000000000, 41, (.st (.pr .str (.pr (.sl 9 .str) (.pr (.int .i64) (.int .i64))))), false)], []⟩
def oc_laws_markStringS_o_i10_SLSII (k : Nat) : OC := ⟨laws_markStringS_o_i10_SLSII_hi, laws_markStringS_o_i10_SLSII_ho, fun x => laws_markStringS_o_i10_SLSII k x.1.1.1 x.1.2.1 x.2.1.1⟩
theorem laws_markStringS_o_i10_SLSII_l0_ok (k : Nat) (pins : Nat → Value) (pinB : Nat → Nat) : LoopOK (mkEnv ti [(22, fe_laws_markText k)] (lk []) pins pinB) (laws_markStringS_o_i10_SLSII_O k) (rdO (mkEnv ti [(22, fe_laws_markText k)] (lk []) pins pinB) [.tmp 4] laws_markStringS_o_i10_SLSII_ho) ((loopsOf (codeOf Try.f11)).getD 0 .skip) (fun σ kx => laws_markStringS_o_i10_SLSII_l0_h.get σ fun x => laws_markStringS_o_i10_SLSII_l0_F k k x kx) := by
  refine ⟨laws_markStringS_o_i10_SLSII_l0_h, [(0, laws_markStringS_o_i10_SLSII_l0_x0)], fun n x kx => laws_markStringS_o_i10_SLSII_l0_F k n x kx, k, by kernel_rfl, by kernel_rfl, fun x kx => by kernel_rfl, ?_, fun σ kx => rfl⟩
  rintro n ⟨⟨⟨a0n0, ⟨⟩⟩, k1, i5, ⟨⟩⟩, ⟨q_2, ⟨⟩⟩, ⟨⟩⟩ kx
  kernel_rfl
theorem ok_laws_markStringS_o_i10_SLSII (k : Nat) : OpenOK Try.prog ti 11 (oc_laws_markStringS_o_i10_SLSII k) := by
  refine open_ok (tab := [(22, fe_laws_markText k)]) (l := []) ti_ok ti_ht mix (List.forall_mem_cons.2 ⟨ok_laws_markText k, (List.forall_mem_nil _)⟩) (List.forall_mem_nil _) ⟨by kernel_rfl, by kernel_rfl, Try.f11, (codeOf Try.f11), [.tmp 4], (laws_markStringS_o_i10_SLSII_O k), by kernel_rfl, by kernel_rfl, by kernel_rfl, by kernel_rfl, Nat.le_of_ble_eq_true (by kernel_rfl), fun pins pinB => ⟨⟨by kernel_rfl, ?_, ?_⟩, ?_⟩⟩
  · refine loops_of (n := 1) (by kernel_rfl) fun i hi => ?_
    match i, hi with
    | 0, _ => exact loop_of (by kernel_rfl) (laws_markStringS_o_i10_SLSII_l0_ok k pins pinB)
    | n + 1, hi => omega
  · exact no_cuts (by kernel_rfl)
  · rintro ⟨⟨⟨a0n0, ⟨⟩⟩, k1, ⟨⟩⟩, ⟨q_1, ⟨⟩⟩, ⟨⟩⟩
    kernel_rfl
end
end Go.Proofs.Ythninpdhnfbbjaa.Ev
