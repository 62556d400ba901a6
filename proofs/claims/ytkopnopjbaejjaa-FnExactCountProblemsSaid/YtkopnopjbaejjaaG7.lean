/- Functions of the program, as plain ones. No conditions. -/
import Derived.Test.YtkopnopjbaejjaaG6
import Derived.KernelRfl
set_option linter.unusedVariables false
set_option maxRecDepth 100000
namespace Go.Proofs.Ytkopnopjbaejjaa.Ev
open Go.RowKit
noncomputable section
/- 48 loop.example/g01005/impl.BarsPicture -/
def impl_BarsPicture_l1 (k : Nat) : Nat → Int → (List (Int × Int × Int)) → Int → Int → Int → Int → (List (List UInt8)) → (List Int) → (Int × Int × Int) → (Int → (List (Int × Int × Int)) → Int → Int → (List (List UInt8)) → (List Int) → (Int × Int × Int) → Option (List (List UInt8) × Int)) → Option (List (List UInt8) × Int)
  | 0, _, _, _, _, _, _, _, _, _, _ => none
  | n + 1, end1, x18, x19, x20, x29, x30, q_6, q_7, v_8, e_2 => (if (decide (x30 < x29)) = true then (if (decide (v_8.2.1 ≤ x30)) = true then (impl_isForever v_8).bind fun r_8 => (if r_8 = true then (if 0 ≤ x30 ∧ x30.toNat < List.length q_7 then (q_7[x30.toNat]?).bind fun y_9 => (q_7[x30.toNat]?).bind fun y_10 => impl_BarsPicture_l1 k n end1 x18 x19 x20 x29 (w_i64 (x30 + 1)) q_6 (q_7.set x30.toNat 61) v_8 e_2 else none) else (if (decide (x30 < v_8.2.2)) = true then (if 0 ≤ x30 ∧ x30.toNat < List.length q_7 then (q_7[x30.toNat]?).bind fun y_11 => (q_7[x30.toNat]?).bind fun y_12 => impl_BarsPicture_l1 k n end1 x18 x19 x20 x29 (w_i64 (x30 + 1)) q_6 (q_7.set x30.toNat 61) v_8 e_2 else none) else impl_BarsPicture_l1 k n end1 x18 x19 x20 x29 (w_i64 (x30 + 1)) q_6 q_7 v_8 e_2)) else impl_BarsPicture_l1 k n end1 x18 x19 x20 x29 (w_i64 (x30 + 1)) q_6 q_7 v_8 e_2) else e_2 end1 x18 x19 x20 q_6 q_7 v_8)
def impl_BarsPicture_l0 (k : Nat) : Nat → Int → (List (Int × Int × Int)) → Int → Int → (List (List UInt8)) → ((List (List UInt8)) → Option (List (List UInt8) × Int)) → Option (List (List UInt8) × Int)
  | 0, _, _, _, _, _, _ => none
  | n + 1, end1, x18, x19, x20, q_3, e_0 => (if (decide (x20 < x19)) = true then (if 0 ≤ x20 then (x18[x20.toNat]?).bind fun y_4 => (strings_Repeat [46] (w_i64 (end1 + 1))).bind fun r_5 => (if r_5.length ≤ LIM then impl_BarsPicture_l1 k k end1 x18 x19 x20 (List.length (of_S r_5) : Int) 0 q_3 (of_S r_5) y_4 (fun end_6 x_7 x_8 x_9 q_10 q_11 v_12 => (impl_isForever v_12).bind fun r_13 => (if r_13 = true then (if (decide (v_12.2.1 ≤ end_6)) = true then (if 0 ≤ end_6 ∧ end_6.toNat < List.length q_11 then (q_11[end_6.toNat]?).bind fun y_14 => (q_11[end_6.toNat]?).bind fun y_15 => (if (q_10.length + [(to_S (q_11.set end_6.toNat 62))].length) * 16 ≤ LIM then impl_BarsPicture_l0 k n end_6 x_7 x_8 (w_i64 (x_9 + 1)) (q_10 ++ [(to_S (q_11.set end_6.toNat 62))]) e_0 else none) else none) else (if (q_10.length + [(to_S q_11)].length) * 16 ≤ LIM then impl_BarsPicture_l0 k n end_6 x_7 x_8 (w_i64 (x_9 + 1)) (q_10 ++ [(to_S q_11)]) e_0 else none)) else (if (q_10.length + [(to_S q_11)].length) * 16 ≤ LIM then impl_BarsPicture_l0 k n end_6 x_7 x_8 (w_i64 (x_9 + 1)) (q_10 ++ [(to_S q_11)]) e_0 else none))) else none) else none) else e_0 q_3)
def impl_BarsPicture (k : Nat) (list0 : List (Int × Int × Int)) (end1 : Int) : Option (List (List UInt8) × Int) := (impl_ValidBars k list0).bind fun r_1 => (if (!r_1) = true then some ([], 1) else (impl_within end1 0 79).bind fun r_2 => (if (!r_2) = true then some ([], 2) else impl_BarsPicture_l0 k k end1 list0 (List.length list0 : Int) 0 [] (fun q_16 => (impl_pictured k q_16).bind fun r_17 => some (r_17.1, r_17.2))))
def impl_BarsPicture_l1_h : Head := ⟨[(1, (.val (.int .i64))), (6, (.ref 64000000 [])), (8, (.bp 8 [] 0)), (9, (.ref 64000001 [])), (18, (.val (.sl 110 (.st (.pr (.int .i64) (.pr (.int .i64) (.int .i64))))))), (19, (.val (.int .i64))), (20, (.val (.int .i64))), (29, (.val (.int .i64))), (30, (.val (.int .i64)))], [(64000000, 9, .str, false), (64000001, 5, (.int .u8), true)], [(8, 110, (.val (.st (.pr (.int .i64) (.pr (.int .i64) (.int .i64))))))]⟩
def impl_BarsPicture_l1_x2 : Head := ⟨[(1, (.val (.int .i64))), (6, (.ref 64000000 [])), (8, (.bp 8 [] 0)), (9, (.ref 64000001 [])), (18, (.val (.sl 110 (.st (.pr (.int .i64) (.pr (.int .i64) (.int .i64))))))), (19, (.val (.int .i64))), (20, (.val (.int .i64)))], [(64000000, 9, .str, false), (64000001, 5, (.int .u8), true)], [(8, 110, (.val (.st (.pr (.int .i64) (.pr (.int .i64) (.int .i64))))))]⟩
def impl_BarsPicture_l1_F (k n : Nat) (x : impl_BarsPicture_l1_h.T) (kx : Nat → St → Option (List (List UInt8) × Int)) : Option (List (List UInt8) × Int) := impl_BarsPicture_l1 k n x.1.1 x.1.2.2.2.2.1 x.1.2.2.2.2.2.1 x.1.2.2.2.2.2.2.1 x.1.2.2.2.2.2.2.2.1 x.1.2.2.2.2.2.2.2.2.1 x.2.1.1 x.2.1.2.1 x.2.2.1 (fun (end1 : Int) (x18 : List (Int × Int × Int)) (x19 : Int) (x20 : Int) (q_13 : List (List UInt8)) (q_14 : List Int) (v_8 : Int × Int × Int) => kx 2 (impl_BarsPicture_l1_x2.fill ((end1, (), (), (), x18, x19, x20, ()), (q_13, q_14, ()), (v_8, ()))))
def impl_BarsPicture_l0_h : Head := ⟨[(1, (.val (.int .i64))), (6, (.ref 64000000 [])), (18, (.val (.sl 110 (.st (.pr (.int .i64) (.pr (.int .i64) (.int .i64))))))), (19, (.val (.int .i64))), (20, (.val (.int .i64)))], [(64000000, 9, .str, false)], []⟩
def impl_BarsPicture_l0_x0 : Head := ⟨[(6, (.ref 64000000 []))], [(64000000, 9, .str, false)], []⟩
def impl_BarsPicture_l0_F (k n : Nat) (x : impl_BarsPicture_l0_h.T) (kx : Nat → St → Option (List (List UInt8) × Int)) : Option (List (List UInt8) × Int) := impl_BarsPicture_l0 k n x.1.1 x.1.2.2.1 x.1.2.2.2.1 x.1.2.2.2.2.1 x.2.1.1 (fun (q_23 : List (List UInt8)) => kx 0 (impl_BarsPicture_l0_x0.fill (((), ()), (q_23, ()), ())))
def impl_BarsPicture_O (k : Nat) : Oracles (List (List UInt8) × Int) := ⟨fun n => bif Nat.beq n 11 then some (fun σ kx => impl_BarsPicture_l1_h.get σ fun x => impl_BarsPicture_l1_F k k x kx) else bif Nat.beq n 7 then some (fun σ kx => impl_BarsPicture_l0_h.get σ fun x => impl_BarsPicture_l0_F k k x kx) else none, fun _ => none⟩
def fe_impl_BarsPicture (k : Nat) : FE := ⟨(.pr (.sl 110 (.st (.pr (.int .i64) (.pr (.int .i64) (.int .i64))))) (.int .i64)), 2, (.pr (.sl 9 .str) (.int .i64)), fun x => impl_BarsPicture k x.1 x.2⟩
theorem impl_BarsPicture_l1_ok (k : Nat) : LoopOK (mkEnv ti [(94, fe_impl_ValidBars k), (88, fe_impl_within), (81, fe_strings_Repeat), (95, fe_impl_isForever), (83, fe_impl_pictured k)] (lk []) pins0 pinB0) (impl_BarsPicture_O k) (rdC (mkEnv ti [(94, fe_impl_ValidBars k), (88, fe_impl_within), (81, fe_strings_Repeat), (95, fe_impl_isForever), (83, fe_impl_pictured k)] (lk []) pins0 pinB0) [.tmp 4, .tmp 5] (.pr (.sl 9 .str) (.int .i64))) ((loopsOf (codeOf Try.f48)).getD 1 .skip) (fun σ kx => impl_BarsPicture_l1_h.get σ fun x => impl_BarsPicture_l1_F k k x kx) := by
  refine ⟨impl_BarsPicture_l1_h, [(2, impl_BarsPicture_l1_x2)], fun n x kx => impl_BarsPicture_l1_F k n x kx, k, by kernel_rfl, by kernel_rfl, fun x kx => by kernel_rfl, ?_, fun σ kx => rfl⟩
  rintro n ⟨⟨end1, ⟨⟩, ⟨⟩, ⟨⟩, x18, x19, x20, x29, x30, ⟨⟩⟩, ⟨q_6, q_7, ⟨⟩⟩, ⟨v_8, ⟨⟩⟩⟩ kx
  kernel_rfl
theorem impl_BarsPicture_l0_ok (k : Nat) : LoopOK (mkEnv ti [(94, fe_impl_ValidBars k), (88, fe_impl_within), (81, fe_strings_Repeat), (95, fe_impl_isForever), (83, fe_impl_pictured k)] (lk []) pins0 pinB0) (impl_BarsPicture_O k) (rdC (mkEnv ti [(94, fe_impl_ValidBars k), (88, fe_impl_within), (81, fe_strings_Repeat), (95, fe_impl_isForever), (83, fe_impl_pictured k)] (lk []) pins0 pinB0) [.tmp 4, .tmp 5] (.pr (.sl 9 .str) (.int .i64))) ((loopsOf (codeOf Try.f48)).getD 0 .skip) (fun σ kx => impl_BarsPicture_l0_h.get σ fun x => impl_BarsPicture_l0_F k k x kx) := by
  refine ⟨impl_BarsPicture_l0_h, [(0, impl_BarsPicture_l0_x0)], fun n x kx => impl_BarsPicture_l0_F k n x kx, k, by kernel_rfl, by kernel_rfl, fun x kx => by kernel_rfl, ?_, fun σ kx => rfl⟩
  rintro n ⟨⟨end1, ⟨⟩, x18, x19, x20, ⟨⟩⟩, ⟨q_3, ⟨⟩⟩, ⟨⟩⟩ kx
  kernel_rfl
theorem ok_impl_BarsPicture (k : Nat) : FnOK Try.prog 48 (fe_impl_BarsPicture k) := by
  refine closed_ok (tab := [(94, fe_impl_ValidBars k), (88, fe_impl_within), (81, fe_strings_Repeat), (95, fe_impl_isForever), (83, fe_impl_pictured k)]) (l := []) ti_ok ti_ht mix (List.forall_mem_cons.2 ⟨ok_impl_ValidBars k, (List.forall_mem_cons.2 ⟨ok_impl_within, (List.forall_mem_cons.2 ⟨ok_strings_Repeat, (List.forall_mem_cons.2 ⟨ok_impl_isForever, (List.forall_mem_cons.2 ⟨ok_impl_pictured k, (List.forall_mem_nil _)⟩)⟩)⟩)⟩)⟩) (List.forall_mem_nil _) ⟨⟨Try.f48, (codeOf Try.f48), [.tmp 4, .tmp 5], (impl_BarsPicture_O k), by kernel_rfl, by kernel_rfl, by kernel_rfl, by kernel_rfl, rfl, by decide, ⟨by kernel_rfl, ?_, ?_⟩, ?_⟩⟩
  · refine loops_of (n := 2) (by kernel_rfl) fun i hi => ?_
    match i, hi with
    | 0, _ => exact loop_of (by kernel_rfl) (impl_BarsPicture_l0_ok k)
    | 1, _ => exact loop_of (by kernel_rfl) (impl_BarsPicture_l1_ok k)
    | n + 2, hi => omega
  · exact no_cuts (by kernel_rfl)
  · rintro ⟨list0, end1⟩
    kernel_rfl
/- 96 loop.example/g01005/laws.eqBar -/
def laws_eqBar (a0 : Int × Int × Int) (b1 : Int × Int × Int) : Option Bool := (if (!(decide (a0.1 = b1.1))) = true then some false else (if (!(decide (a0.2.1 = b1.2.1))) = true then some false else (if (!(decide (a0.2.2 = b1.2.2))) = true then some false else some true)))
def fe_laws_eqBar : FE := ⟨(.pr (.st (.pr (.int .i64) (.pr (.int .i64) (.int .i64)))) (.st (.pr (.int .i64) (.pr (.int .i64) (.int .i64))))), 1, .bool, fun x => laws_eqBar x.1 x.2⟩
theorem ok_laws_eqBar : FnOK Try.prog 96 (fe_laws_eqBar) := by
  refine closed_ok (tab := []) (l := []) ti_ok ti_ht mix (List.forall_mem_nil _) (List.forall_mem_nil _) ⟨⟨Try.f96, (codeOf Try.f96), [.tmp 4], (LOn Bool), by kernel_rfl, by kernel_rfl, by kernel_rfl, by kernel_rfl, rfl, by decide, ⟨by kernel_rfl, ?_, ?_⟩, ?_⟩⟩
  · exact no_loops (by kernel_rfl)
  · exact no_cuts (by kernel_rfl)
  · rintro ⟨a0, b1⟩
    kernel_rfl
/- 49 loop.example/g01005/laws.eqBarS -/
def laws_eqBarS_l0 (k : Nat) : Nat → (List (Int × Int × Int)) → (List (Int × Int × Int)) → Int → (Option Bool) → Option Bool
  | 0, _, _, _, _ => none
  | n + 1, a0, b1, i5, e_0 => (if (decide (i5 < (List.length a0 : Int))) = true then (if 0 ≤ i5 then (a0[i5.toNat]?).bind fun y_1 => (if 0 ≤ i5 then (b1[i5.toNat]?).bind fun y_2 => (laws_eqBar y_1 y_2).bind fun r_3 => (if (!r_3) = true then some false else laws_eqBarS_l0 k n a0 b1 (w_i64 (i5 + 1)) e_0) else none) else none) else e_0)
def laws_eqBarS (k : Nat) (a0 : List (Int × Int × Int)) (b1 : List (Int × Int × Int)) : Option Bool := (if (!(decide ((List.length a0 : Int) = (List.length b1 : Int)))) = true then some false else laws_eqBarS_l0 k k a0 b1 0 (some true))
def laws_eqBarS_l0_h : Head := ⟨[(0, (.val (.sl 110 (.st (.pr (.int .i64) (.pr (.int .i64) (.int .i64))))))), (1, (.val (.sl 110 (.st (.pr (.int .i64) (.pr (.int .i64) (.int .i64))))))), (5, (.val (.int .i64)))], [], []⟩
def laws_eqBarS_l0_x0 : Head := ⟨[], [], []⟩
def laws_eqBarS_l0_F (k n : Nat) (x : laws_eqBarS_l0_h.T) (kx : Nat → St → Option Bool) : Option Bool := laws_eqBarS_l0 k n x.1.1 x.1.2.1 x.1.2.2.1 (kx 0 (laws_eqBarS_l0_x0.fill ((), (), ())))
def laws_eqBarS_O (k : Nat) : Oracles Bool := ⟨fun n => bif Nat.beq n 4 then some (fun σ kx => laws_eqBarS_l0_h.get σ fun x => laws_eqBarS_l0_F k k x kx) else none, fun _ => none⟩
def fe_laws_eqBarS (k : Nat) : FE := ⟨(.pr (.sl 110 (.st (.pr (.int .i64) (.pr (.int .i64) (.int .i64))))) (.sl 110 (.st (.pr (.int .i64) (.pr (.int .i64) (.int .i64)))))), 1, .bool, fun x => laws_eqBarS k x.1 x.2⟩
theorem laws_eqBarS_l0_ok (k : Nat) : LoopOK (mkEnv ti [(96, fe_laws_eqBar)] (lk []) pins0 pinB0) (laws_eqBarS_O k) (rdC (mkEnv ti [(96, fe_laws_eqBar)] (lk []) pins0 pinB0) [.tmp 4] .bool) ((loopsOf (codeOf Try.f49)).getD 0 .skip) (fun σ kx => laws_eqBarS_l0_h.get σ fun x => laws_eqBarS_l0_F k k x kx) := by
  refine ⟨laws_eqBarS_l0_h, [(0, laws_eqBarS_l0_x0)], fun n x kx => laws_eqBarS_l0_F k n x kx, k, by kernel_rfl, by kernel_rfl, fun x kx => by kernel_rfl, ?_, fun σ kx => rfl⟩
  rintro n ⟨⟨a0, b1, i5, ⟨⟩⟩, ⟨⟩, ⟨⟩⟩ kx
  kernel_rfl
theorem ok_laws_eqBarS (k : Nat) : FnOK Try.prog 49 (fe_laws_eqBarS k) := by
  refine closed_ok (tab := [(96, fe_laws_eqBar)]) (l := []) ti_ok ti_ht mix (List.forall_mem_cons.2 ⟨ok_laws_eqBar, (List.forall_mem_nil _)⟩) (List.forall_mem_nil _) ⟨⟨Try.f49, (codeOf Try.f49), [.tmp 4], (laws_eqBarS_O k), by kernel_rfl, by kernel_rfl, by kernel_rfl, by kernel_rfl, rfl, by decide, ⟨by kernel_rfl, ?_, ?_⟩, ?_⟩⟩
  · refine loops_of (n := 1) (by kernel_rfl) fun i hi => ?_
    match i, hi with
    | 0, _ => exact loop_of (by kernel_rfl) (laws_eqBarS_l0_ok k)
    | n + 1, hi => omega
  · exact no_cuts (by kernel_rfl)
  · rintro ⟨a0, b1⟩
    kernel_rfl
/- 50 loop.example/g01005/laws.markBarS (open) -/
def laws_markBarS_o_l0 (k : Nat) : Nat → Int → Int → (List (Int × Int × Int)) → (Int → (List (Int × Int × Int)) → Option (((Int × Unit) × ((List (Int × Int × Int)) × Unit) × Unit))) → Option (((Int × Unit) × ((List (Int × Int × Int)) × Unit) × Unit))
  | 0, _, _, _, _ => none
  | n + 1, k1, i5, q_2, e_0 => (if (decide (i5 < (List.length q_2 : Int))) = true then (if 0 ≤ i5 ∧ i5.toNat < List.length q_2 then (q_2[i5.toNat]?).bind fun y_3 => (q_2[i5.toNat]?).bind fun y_4 => (if 0 ≤ i5 ∧ i5.toNat < List.length (q_2.set i5.toNat (k1, y_3.2)) then ((q_2.set i5.toNat (k1, y_3.2))[i5.toNat]?).bind fun y_5 => ((q_2.set i5.toNat (k1, y_3.2))[i5.toNat]?).bind fun y_6 => (if 0 ≤ i5 ∧ i5.toNat < List.length ((q_2.set i5.toNat (k1, y_3.2)).set i5.toNat (y_5.1, ((w_i64 (k1 + 1)), y_5.2.2))) then (((q_2.set i5.toNat (k1, y_3.2)).set i5.toNat (y_5.1, ((w_i64 (k1 + 1)), y_5.2.2)))[i5.toNat]?).bind fun y_7 => (((q_2.set i5.toNat (k1, y_3.2)).set i5.toNat (y_5.1, ((w_i64 (k1 + 1)), y_5.2.2)))[i5.toNat]?).bind fun y_8 => laws_markBarS_o_l0 k n (w_i64 ((w_i64 ((w_i64 (k1 + 1)) + 1)) + 1)) (w_i64 (i5 + 1)) (((q_2.set i5.toNat (k1, y_3.2)).set i5.toNat (y_5.1, ((w_i64 (k1 + 1)), y_5.2.2))).set i5.toNat (y_7.1, (y_7.2.1, (w_i64 ((w_i64 (k1 + 1)) + 1))))) e_0 else none) else none) else none) else e_0 k1 q_2)
def laws_markBarS_o (k : Nat) (k1 : Int) (q_1 : List (Int × Int × Int)) : Option (((Int × Unit) × ((List (Int × Int × Int)) × Unit) × Unit)) := laws_markBarS_o_l0 k k k1 0 q_1 (fun k_9 q_10 => some ((k_9, ()), (q_10, ()), ()))
def laws_markBarS_o_l0_h : Head := ⟨[(0, (.ref 1000000000 [])), (1, (.val (.int .i64))), (5, (.val (.int .i64)))], [(1000000000, 110, (.st (.pr (.int .i64) (.pr (.int .i64) (.int .i64)))), false)], []⟩
def laws_markBarS_o_l0_x0 : Head := ⟨[(1, (.val (.int .i64)))], [(1000000000, 110, (.st (.pr (.int .i64) (.pr (.int .i64) (.int .i64)))), false)], []⟩
def laws_markBarS_o_l0_F (k n : Nat) (x : laws_markBarS_o_l0_h.T) (kx : Nat → St → Option (((Int × Unit) × ((List (Int × Int × Int)) × Unit) × Unit))) : Option (((Int × Unit) × ((List (Int × Int × Int)) × Unit) × Unit)) := laws_markBarS_o_l0 k n x.1.2.1 x.1.2.2.1 x.2.1.1 (fun (k1 : Int) (q_9 : List (Int × Int × Int)) => kx 0 (laws_markBarS_o_l0_x0.fill ((k1, ()), (q_9, ()), ())))
def laws_markBarS_o_O (k : Nat) : Oracles (((Int × Unit) × ((List (Int × Int × Int)) × Unit) × Unit)) := ⟨fun n => bif Nat.beq n 2 then some (fun σ kx => laws_markBarS_o_l0_h.get σ fun x => laws_markBarS_o_l0_F k k x kx) else none, fun _ => none⟩
def laws_markBarS_o_hi : Head := ⟨[(0, (.ref 1000000000 [])), (1, (.val (.int .i64)))], [(1000000000, 110, (.st (.pr (.int .i64) (.pr (.int .i64) (.int .i64)))), false)], []⟩
def laws_markBarS_o_ho : Head := ⟨[(0, (.val (.int .i64)))], [(1000000000, 110, (.st (.pr (.int .i64) (.pr (.int .i64) (.int .i64)))), false)], []⟩
def oc_laws_markBarS_o (k : Nat) : OC := ⟨laws_markBarS_o_hi, laws_markBarS_o_ho, fun x => laws_markBarS_o k x.1.2.1 x.2.1.1⟩
theorem laws_markBarS_o_l0_ok (k : Nat) (pins : Nat → Value) (pinB : Nat → Nat) : LoopOK (mkEnv ti [] (lk []) pins pinB) (laws_markBarS_o_O k) (rdO (mkEnv ti [] (lk []) pins pinB) [.tmp 4] laws_markBarS_o_ho) ((loopsOf (codeOf Try.f50)).getD 0 .skip) (fun σ kx => laws_markBarS_o_l0_h.get σ fun x => laws_markBarS_o_l0_F k k x kx) := by
  refine ⟨laws_markBarS_o_l0_h, [(0, laws_markBarS_o_l0_x0)], fun n x kx => laws_markBarS_o_l0_F k n x kx, k, by kernel_rfl, by kernel_rfl, fun x kx => by kernel_rfl, ?_, fun σ kx => rfl⟩
  rintro n ⟨⟨⟨⟩, k1, i5, ⟨⟩⟩, ⟨q_2, ⟨⟩⟩, ⟨⟩⟩ kx
  kernel_rfl
theorem ok_laws_markBarS_o (k : Nat) : OpenOK Try.prog ti 50 (oc_laws_markBarS_o k) := by
  refine open_ok (tab := []) (l := []) ti_ok ti_ht mix (List.forall_mem_nil _) (List.forall_mem_nil _) ⟨by kernel_rfl, by kernel_rfl, Try.f50, (codeOf Try.f50), [.tmp 4], (laws_markBarS_o_O k), by kernel_rfl, by kernel_rfl, by kernel_rfl, by kernel_rfl, Nat.le_of_ble_eq_true (by kernel_rfl), fun pins pinB => ⟨⟨by kernel_rfl, ?_, ?_⟩, ?_⟩⟩
  · refine loops_of (n := 1) (by kernel_rfl) fun i hi => ?_
    match i, hi with
    | 0, _ => exact loop_of (by kernel_rfl) (laws_markBarS_o_l0_ok k pins pinB)
    | n + 1, hi => omega
  · exact no_cuts (by kernel_rfl)
  · rintro ⟨⟨⟨⟩, k1, ⟨⟩⟩, ⟨q_1, ⟨⟩⟩, ⟨⟩⟩
    kernel_rfl
/- 10 loop.example/g01005/laws.FnExactBarsPicture -/
def laws_FnExactBarsPicture (k : Nat) (aList0 : List (Int × Int × Int)) (aEnd1 : Int) : Option Bool := (laws_szBarS aList0 1048576).bind fun r_1 => (if (decide (r_1 < 0)) = true then some true else (laws_toBarS k aList0).bind fun r_2 => (spec_BarsPicture k r_2 aEnd1).bind fun r_3 => (laws_toBarS k aList0).bind fun r_4 => (impl_BarsPicture k r_4 aEnd1).bind fun r_5 => (laws_eqStringS k r_5.1 r_3.1).bind fun r_6 => (if (!r_6) = true then some false else (if (!(decide (r_5.2 = r_3.2))) = true then some false else (laws_toBarS k aList0).bind fun r_7 => (laws_eqBarS k r_4 r_7).bind fun r_8 => (if (!r_8) = true then some false else (laws_markBarS_o k 1 r_4).bind fun y_9 => (if (decide (y_9.1.1 < 0)) = true then some false else (laws_eqStringS k r_5.1 r_3.1).bind fun r_10 => (if (!r_10) = true then some false else (if (!(decide (r_5.2 = r_3.2))) = true then some false else (laws_markStringS_o k 1 r_5.1).bind fun y_11 => (laws_heldStringS k y_11.2.1.1 1).bind fun r_12 => (if (decide (r_12 < 0)) = true then some false else (if (!(decide (r_12 = y_11.1.1))) = true then some false else (laws_toBarS k aList0).bind fun r_13 => (impl_BarsPicture k r_13 aEnd1).bind fun r_14 => (laws_eqStringS k r_14.1 r_3.1).bind fun r_15 => (if (!r_15) = true then some false else (if (!(decide (r_14.2 = r_3.2))) = true then some false else (laws_heldStringS k y_11.2.1.1 1).bind fun r_16 => (if (decide (r_16 < 0)) = true then some false else (if (!(decide (r_16 = y_11.1.1))) = true then some false else some true)))))))))))))
def fe_laws_FnExactBarsPicture (k : Nat) : FE := ⟨(.pr (.sl 112 (.st (.pr (.int .i64) (.pr (.int .i64) (.int .i64))))) (.int .i64)), 1, .bool, fun x => laws_FnExactBarsPicture k x.1 x.2⟩
theorem ok_laws_FnExactBarsPicture (k : Nat) : FnOK Try.prog 10 (fe_laws_FnExactBarsPicture k) := by
  refine closed_ok (tab := [(45, fe_laws_szBarS), (47, fe_laws_toBarS k), (46, fe_spec_BarsPicture k), (48, fe_impl_BarsPicture k), (32, fe_laws_eqStringS k), (49, fe_laws_eqBarS k), (34, fe_laws_heldStringS k)]) (l := [(52, 50, oc_laws_markBarS_o k), (68, 33, oc_laws_markStringS_o k)]) ti_ok ti_ht mix (List.forall_mem_cons.2 ⟨ok_laws_szBarS, (List.forall_mem_cons.2 ⟨ok_laws_toBarS k, (List.forall_mem_cons.2 ⟨ok_spec_BarsPicture k, (List.forall_mem_cons.2 ⟨ok_impl_BarsPicture k, (List.forall_mem_cons.2 ⟨ok_laws_eqStringS k, (List.forall_mem_cons.2 ⟨ok_laws_eqBarS k, (List.forall_mem_cons.2 ⟨ok_laws_heldStringS k, (List.forall_mem_nil _)⟩)⟩)⟩)⟩)⟩)⟩)⟩) (List.forall_mem_cons.2 ⟨ok_laws_markBarS_o k, (List.forall_mem_cons.2 ⟨ok_laws_markStringS_o k, (List.forall_mem_nil _)⟩)⟩) ⟨⟨Try.f10, (codeOf Try.f10), [.tmp 4], (LOn Bool), by kernel_rfl, by kernel_rfl, by kernel_rfl, by kernel_rfl, rfl, by decide, ⟨by kernel_rfl, ?_, ?_⟩, ?_⟩⟩
  · exact no_loops (by kernel_rfl)
  · exact no_cuts (by kernel_rfl)
  · rintro ⟨aList0, aEnd1⟩
    kernel_rfl
end
end Go.Proofs.Ytkopnopjbaejjaa.Ev
