/- Functions of the program, as plain ones. No conditions. -/
import Derived.Test.YthninpdhnfbbjaaG4
import Derived.KernelRfl
set_option linter.unusedVariables false
set_option maxRecDepth 100000
namespace Go.Proofs.Ythninpdhnfbbjaa.Ev
open Go.RowKit
noncomputable section
/- 10 loop.example/g01005/laws.markItemS (open) -/
def laws_markItemS_o_l0 (k : Nat) : Nat → Int → Int → (List (List UInt8 × List (List UInt8) × Int × Int)) → (Int → (List (List UInt8 × List (List UInt8) × Int × Int)) → Option (((Int × Unit) × ((List (List UInt8 × List (List UInt8) × Int × Int)) × Unit) × Unit))) → Option (((Int × Unit) × ((List (List UInt8 × List (List UInt8) × Int × Int)) × Unit) × Unit))
  | 0, _, _, _, _ => none
  | n + 1, k1, i5, q_2, e_0 => (if (decide (i5 < (List.length q_2 : Int))) = true then (laws_markText k k1).bind fun r_3 => (if 0 ≤ i5 ∧ i5.toNat < List.length q_2 then (q_2[i5.toNat]?).bind fun y_4 => (q_2[i5.toNat]?).bind fun y_5 => (if 0 ≤ i5 ∧ i5.toNat < List.length (q_2.set i5.toNat (r_3, y_4.2)) then ((q_2.set i5.toNat (r_3, y_4.2))[i5.toNat]?).bind fun y_6 => (laws_markStringS_o_i10_SLSII k i5.toNat (w_i64 (k1 + 1)) (q_2.set i5.toNat (r_3, y_4.2))).bind fun y_7 => (if 0 ≤ i5 ∧ i5.toNat < List.length y_7.2.1.1 then (y_7.2.1.1[i5.toNat]?).bind fun y_8 => (y_7.2.1.1[i5.toNat]?).bind fun y_9 => (if 0 ≤ i5 ∧ i5.toNat < List.length (y_7.2.1.1.set i5.toNat (y_8.1, (y_8.2.1, (y_7.1.1, y_8.2.2.2)))) then ((y_7.2.1.1.set i5.toNat (y_8.1, (y_8.2.1, (y_7.1.1, y_8.2.2.2))))[i5.toNat]?).bind fun y_10 => ((y_7.2.1.1.set i5.toNat (y_8.1, (y_8.2.1, (y_7.1.1, y_8.2.2.2))))[i5.toNat]?).bind fun y_11 => laws_markItemS_o_l0 k n (w_i64 ((w_i64 (y_7.1.1 + 1)) + 1)) (w_i64 (i5 + 1)) ((y_7.2.1.1.set i5.toNat (y_8.1, (y_8.2.1, (y_7.1.1, y_8.2.2.2)))).set i5.toNat (y_10.1, (y_10.2.1, (y_10.2.2.1, (w_i64 (y_7.1.1 + 1)))))) e_0 else none) else none) else none) else none) else e_0 k1 q_2)
def laws_markItemS_o (k : Nat) (k1 : Int) (q_1 : List (List UInt8 × List (List UInt8) × Int × Int)) : Option (((Int × Unit) × ((List (List UInt8 × List (List UInt8) × Int × Int)) × Unit) × Unit)) := laws_markItemS_o_l0 k k k1 0 q_1 (fun k_12 q_13 => some ((k_12, ()), (q_13, ()), ()))
def laws_markItemS_o_l0_h : Head := ⟨[(0, (.ref 1000000000 [])), (1, (.val (.int .i64))), (5, (.val (.int .i64)))], [(1000000000, 41, (.st (.pr .str (.pr (.sl 9 .str) (.pr (.int .i64) (.int .i64))))), false)], []⟩
def laws_markItemS_o_l0_x0 : Head := ⟨[(1, (.val (.int .i64)))], [(1000000000, 41, (.st (.pr .str (.pr (.sl 9 .str) (.pr (.int .i64) (.int .i64))))), false)], []⟩
def laws_markItemS_o_l0_F (k n : Nat) (x : laws_markItemS_o_l0_h.T) (kx : Nat → St → Option (((Int × Unit) × ((List (List UInt8 × List (List UInt8) × Int × Int)) × Unit) × Unit))) : Option (((Int × Unit) × ((List (List UInt8 × List (List UInt8) × Int × Int)) × Unit) × Unit)) := laws_markItemS_o_l0 k n x.1.2.1 x.1.2.2.1 x.2.1.1 (fun (k1 : Int) (q_13 : List (List UInt8 × List (List UInt8) × Int × Int)) => kx 0 (laws_markItemS_o_l0_x0.fill ((k1, ()), (q_13, ()), ())))
def laws_markItemS_o_O (k : Nat) : Oracles (((Int × Unit) × ((List (List UInt8 × List (List UInt8) × Int × Int)) × Unit) × Unit)) := ⟨fun n => bif Nat.beq n 2 then some (fun σ kx => laws_markItemS_o_l0_h.get σ fun x => laws_markItemS_o_l0_F k k x kx) else none, fun _ => none⟩
def laws_markItemS_o_hi : Head := ⟨[(0, (.ref 1000000000 [])), (1, (.val (.int .i64)))], [(1000000000, 41, (.st (.pr .str (.pr (.sl 9 .str) (.pr (.int .i64) (.int .i64))))), false)], []⟩
def laws_markItemS_o_ho : Head := ⟨[(0, (.val (.int .i64)))], [(1000000000, 41, (.st (.pr .str (.pr (.sl 9 .str) (.pr (.int .i64) (.int .i64))))), false)], []⟩
def oc_laws_markItemS_o (k : Nat) : OC := ⟨laws_markItemS_o_hi, laws_markItemS_o_ho, fun x => laws_markItemS_o k x.1.2.1 x.2.1.1⟩
theorem laws_markItemS_o_l0_ok (k : Nat) (pins : Nat → Value) (pinB : Nat → Nat) : LoopOK (mkEnv ti [(22, fe_laws_markText k)] (lk [(26, 11, oc_laws_markStringS_o_i10_SLSII k)]) pins pinB) (laws_markItemS_o_O k) (rdO (mkEnv ti [(22, fe_laws_markText k)] (lk [(26, 11, oc_laws_markStringS_o_i10_SLSII k)]) pins pinB) [.tmp 4] laws_markItemS_o_ho) ((loopsOf (codeOf Try.f10)).getD 0 .skip) (fun σ kx => laws_markItemS_o_l0_h.get σ fun x => laws_markItemS_o_l0_F k k x kx) := by
  refine ⟨laws_markItemS_o_l0_h, [(0, laws_markItemS_o_l0_x0)], fun n x kx => laws_markItemS_o_l0_F k n x kx, k, by kernel_rfl, by kernel_rfl, fun x kx => by kernel_rfl, ?_, fun σ kx => rfl⟩
  rintro n ⟨⟨⟨⟩, k1, i5, ⟨⟩⟩, ⟨q_2, ⟨⟩⟩, ⟨⟩⟩ kx
  kernel_rfl
theorem ok_laws_markItemS_o (k : Nat) : OpenOK Try.prog ti 10 (oc_laws_markItemS_o k) := by
  refine open_ok (tab := [(22, fe_laws_markText k)]) (l := [(26, 11, oc_laws_markStringS_o_i10_SLSII k)]) ti_ok ti_ht mix (List.forall_mem_cons.2 ⟨ok_laws_markText k, (List.forall_mem_nil _)⟩) (List.forall_mem_cons.2 ⟨ok_laws_markStringS_o_i10_SLSII k, (List.forall_mem_nil _)⟩) ⟨by kernel_rfl, by kernel_rfl, Try.f10, (codeOf Try.f10), [.tmp 4], (laws_markItemS_o_O k), by kernel_rfl, by kernel_rfl, by kernel_rfl, by kernel_rfl, Nat.le_of_ble_eq_true (by kernel_rfl), fun pins pinB => ⟨⟨by kernel_rfl, ?_, ?_⟩, ?_⟩⟩
  · refine loops_of (n := 1) (by kernel_rfl) fun i hi => ?_
    match i, hi with
    | 0, _ => exact loop_of (by kernel_rfl) (laws_markItemS_o_l0_ok k pins pinB)
    | n + 1, hi => omega
  · exact no_cuts (by kernel_rfl)
  · rintro ⟨⟨⟨⟩, k1, ⟨⟩⟩, ⟨q_1, ⟨⟩⟩, ⟨⟩⟩
    kernel_rfl
/- 11 loop.example/g01005/laws.markStringS (open) -/
def laws_markStringS_o_l0 (k : Nat) : Nat → Int → Int → (List (List UInt8)) → (Int → (List (List UInt8)) → Option (((Int × Unit) × ((List (List UInt8)) × Unit) × Unit))) → Option (((Int × Unit) × ((List (List UInt8)) × Unit) × Unit))
  | 0, _, _, _, _ => none
  | n + 1, k1, i5, q_2, e_0 => (if (decide (i5 < (List.length q_2 : Int))) = true then (laws_markText k k1).bind fun r_3 => (if 0 ≤ i5 ∧ i5.toNat < List.length q_2 then (q_2[i5.toNat]?).bind fun y_4 => (q_2[i5.toNat]?).bind fun y_5 => laws_markStringS_o_l0 k n (w_i64 (k1 + 1)) (w_i64 (i5 + 1)) (q_2.set i5.toNat r_3) e_0 else none) else e_0 k1 q_2)
def laws_markStringS_o (k : Nat) (k1 : Int) (q_1 : List (List UInt8)) : Option (((Int × Unit) × ((List (List UInt8)) × Unit) × Unit)) := laws_markStringS_o_l0 k k k1 0 q_1 (fun k_6 q_7 => some ((k_6, ()), (q_7, ()), ()))
def laws_markStringS_o_l0_h : Head := ⟨[(0, (.ref 1000000000 [])), (1, (.val (.int .i64))), (5, (.val (.int .i64)))], [(1000000000, 9, .str, false)], []⟩
def laws_markStringS_o_l0_x0 : Head := ⟨[(1, (.val (.int .i64)))], [(1000000000, 9, .str, false)], []⟩
def laws_markStringS_o_l0_F (k n : Nat) (x : laws_markStringS_o_l0_h.T) (kx : Nat → St → Option (((Int × Unit) × ((List (List UInt8)) × Unit) × Unit))) : Option (((Int × Unit) × ((List (List UInt8)) × Unit) × Unit)) := laws_markStringS_o_l0 k n x.1.2.1 x.1.2.2.1 x.2.1.1 (fun (k1 : Int) (q_6 : List (List UInt8)) => kx 0 (laws_markStringS_o_l0_x0.fill ((k1, ()), (q_6, ()), ())))
def laws_markStringS_o_O (k : Nat) : Oracles (((Int × Unit) × ((List (List UInt8)) × Unit) × Unit)) := ⟨fun n => bif Nat.beq n 2 then some (fun σ kx => laws_markStringS_o_l0_h.get σ fun x => laws_markStringS_o_l0_F k k x kx) else none, fun _ => none⟩
def laws_markStringS_o_hi : Head := ⟨[(0, (.ref 1000000000 [])), (1, (.val (.int .i64)))], [(1000000000, 9, .str, false)], []⟩
def laws_markStringS_o_ho : Head := ⟨[(0, (.val (.int .i64)))], [(1000000000, 9, .str, false)], []⟩
def oc_laws_markStringS_o (k : Nat) : OC := ⟨laws_markStringS_o_hi, laws_markStringS_o_ho, fun x => laws_markStringS_o k x.1.2.1 x.2.1.1⟩
theorem laws_markStringS_o_l0_ok (k : Nat) (pins : Nat → Value) (pinB : Nat → Nat) : LoopOK (mkEnv ti [(22, fe_laws_markText k)] (lk []) pins pinB) (laws_markStringS_o_O k) (rdO (mkEnv ti [(22, fe_laws_markText k)] (lk []) pins pinB) [.tmp 4] laws_markStringS_o_ho) ((loopsOf (codeOf Try.f11)).getD 0 .skip) (fun σ kx => laws_markStringS_o_l0_h.get σ fun x => laws_markStringS_o_l0_F k k x kx) := by
  refine ⟨laws_markStringS_o_l0_h, [(0, laws_markStringS_o_l0_x0)], fun n x kx => laws_markStringS_o_l0_F k n x kx, k, by kernel_rfl, by kernel_rfl, fun x kx => by kernel_rfl, ?_, fun σ kx => rfl⟩
  rintro n ⟨⟨⟨⟩, k1, i5, ⟨⟩⟩, ⟨q_2, ⟨⟩⟩, ⟨⟩⟩ kx
  kernel_rfl
theorem ok_laws_markStringS_o (k : Nat) : OpenOK Try.prog ti 11 (oc_laws_markStringS_o k) := by
  refine open_ok (tab := [(22, fe_laws_markText k)]) (l := []) ti_ok ti_ht mix (List.forall_mem_cons.2 ⟨ok_laws_markText k, (List.forall_mem_nil _)⟩) (List.forall_mem_nil _) ⟨by kernel_rfl, by kernel_rfl, Try.f11, (codeOf Try.f11), [.tmp 4], (laws_markStringS_o_O k), by kernel_rfl, by kernel_rfl, by kernel_rfl, by kernel_rfl, Nat.le_of_ble_eq_true (by kernel_rfl), fun pins pinB => ⟨⟨by kernel_rfl, ?_, ?_⟩, ?_⟩⟩
  · refine loops_of (n := 1) (by kernel_rfl) fun i hi => ?_
    match i, hi with
    | 0, _ => exact loop_of (by kernel_rfl) (laws_markStringS_o_l0_ok k pins pinB)
    | n + 1, hi => omega
  · exact no_cuts (by kernel_rfl)
  · rintro ⟨⟨⟨⟩, k1, ⟨⟩⟩, ⟨q_1, ⟨⟩⟩, ⟨⟩⟩
    kernel_rfl
/- 12 loop.example/g01005/laws.heldStringS -/
def laws_heldStringS_l0 (k : Nat) : Nat → (List (List UInt8)) → Int → Int → (Int → Option Int) → Option Int
  | 0, _, _, _, _ => none
  | n + 1, a0, k1, i5, e_0 => (if (decide (i5 < (List.length a0 : Int))) = true then (if 0 ≤ i5 then (a0[i5.toNat]?).bind fun y_1 => (laws_markText k k1).bind fun r_2 => (if (!(decide (y_1 = r_2))) = true then some (-1) else laws_heldStringS_l0 k n a0 (w_i64 (k1 + 1)) (w_i64 (i5 + 1)) e_0) else none) else e_0 k1)
def laws_heldStringS (k : Nat) (a0 : List (List UInt8)) (k1 : Int) : Option Int := laws_heldStringS_l0 k k a0 k1 0 (fun k_3 => some k_3)
def laws_heldStringS_l0_h : Head := ⟨[(0, (.val (.sl 9 .str))), (1, (.val (.int .i64))), (5, (.val (.int .i64)))], [], []⟩
def laws_heldStringS_l0_x0 : Head := ⟨[(1, (.val (.int .i64)))], [], []⟩
def laws_heldStringS_l0_F (k n : Nat) (x : laws_heldStringS_l0_h.T) (kx : Nat → St → Option Int) : Option Int := laws_heldStringS_l0 k n x.1.1 x.1.2.1 x.1.2.2.1 (fun (k1 : Int) => kx 0 (laws_heldStringS_l0_x0.fill ((k1, ()), (), ())))
def laws_heldStringS_O (k : Nat) : Oracles Int := ⟨fun n => bif Nat.beq n 2 then some (fun σ kx => laws_heldStringS_l0_h.get σ fun x => laws_heldStringS_l0_F k k x kx) else none, fun _ => none⟩
def fe_laws_heldStringS (k : Nat) : FE := ⟨(.pr (.sl 9 .str) (.int .i64)), 1, (.int .i64), fun x => laws_heldStringS k x.1 x.2⟩
theorem laws_heldStringS_l0_ok (k : Nat) : LoopOK (mkEnv ti [(22, fe_laws_markText k)] (lk []) pins0 pinB0) (laws_heldStringS_O k) (rdC (mkEnv ti [(22, fe_laws_markText k)] (lk []) pins0 pinB0) [.tmp 4] (.int .i64)) ((loopsOf (codeOf Try.f12)).getD 0 .skip) (fun σ kx => laws_heldStringS_l0_h.get σ fun x => laws_heldStringS_l0_F k k x kx) := by
  refine ⟨laws_heldStringS_l0_h, [(0, laws_heldStringS_l0_x0)], fun n x kx => laws_heldStringS_l0_F k n x kx, k, by kernel_rfl, by kernel_rfl, fun x kx => by kernel_rfl, ?_, fun σ kx => rfl⟩
  rintro n ⟨⟨a0, k1, i5, ⟨⟩⟩, ⟨⟩, ⟨⟩⟩ kx
  kernel_rfl
theorem ok_laws_heldStringS (k : Nat) : FnOK Try.prog 12 (fe_laws_heldStringS k) := by
  refine closed_ok (tab := [(22, fe_laws_markText k)]) (l := []) ti_ok ti_ht mix (List.forall_mem_cons.2 ⟨ok_laws_markText k, (List.forall_mem_nil _)⟩) (List.forall_mem_nil _) ⟨⟨Try.f12, (codeOf Try.f12), [.tmp 4], (laws_heldStringS_O k), by kernel_rfl, by kernel_rfl, by kernel_rfl, by kernel_rfl, rfl, by decide, ⟨by kernel_rfl, ?_, ?_⟩, ?_⟩⟩
  · refine loops_of (n := 1) (by kernel_rfl) fun i hi => ?_
    match i, hi with
    | 0, _ => exact loop_of (by kernel_rfl) (laws_heldStringS_l0_ok k)
    | n + 1, hi => omega
  · exact no_cuts (by kernel_rfl)
  · rintro ⟨a0, k1⟩
    kernel_rfl
/- 3 loop.example/g01005/laws.FnExactMakePlan -/
def laws_FnExactMakePlan (k : Nat) (aList0 : List (List UInt8 × List (List UInt8) × Int × Int)) (aName1 : List UInt8) : Option Bool := (if (decide (1048576 < (List.length aName1 : Int))) = true then some true else (laws_szItemS k aList0 1048576).bind fun r_1 => (if (decide (r_1 < 0)) = true then some true else (laws_toItemS k aList0).bind fun r_2 => (spec_MakePlan k r_2 aName1).bind fun r_3 => (laws_toItemS k aList0).bind fun r_4 => (impl_MakePlan k r_4 aName1).bind fun r_5 => (laws_eqStringS k r_5.1 r_3.1).bind fun r_6 => (if (!r_6) = true then some false else (if (!(decide (r_5.2.1 = r_3.2.1))) = true then some false else (if (!(decide (r_5.2.2 = r_3.2.2))) = true then some false else (laws_toItemS k aList0).bind fun r_7 => (laws_eqItemS k r_4 r_7).bind fun r_8 => (if (!r_8) = true then some false else (laws_markItemS_o k 1 r_4).bind fun y_9 => (if (decide (y_9.1.1 < 0)) = true then some false else (laws_eqStringS k r_5.1 r_3.1).bind fun r_10 => (if (!r_10) = true then some false else (if (!(decide (r_5.2.1 = r_3.2.1))) = true then some false else (if (!(decide (r_5.2.2 = r_3.2.2))) = true then some false else (laws_markStringS_o k 1 r_5.1).bind fun y_11 => (laws_heldStringS k y_11.2.1.1 1).bind fun r_12 => (if (decide (r_12 < 0)) = true then some false else (if (!(decide (r_12 = y_11.1.1))) = true then some false else (laws_toItemS k aList0).bind fun r_13 => (impl_MakePlan k r_13 aName1).bind fun r_14 => (laws_eqStringS k r_14.1 r_3.1).bind fun r_15 => (if (!r_15) = true then some false else (if (!(decide (r_14.2.1 = r_3.2.1))) = true then some false else (if (!(decide (r_14.2.2 = r_3.2.2))) = true then some false else (laws_heldStringS k y_11.2.1.1 1).bind fun r_16 => (if (decide (r_16 < 0)) = true then some false else (if (!(decide (r_16 = y_11.1.1))) = true then some false else some true)))))))))))))))))
def fe_laws_FnExactMakePlan (k : Nat) : FE := ⟨(.pr (.sl 36 (.st (.pr .str (.pr (.sl 9 .str) (.pr (.int .i64) (.int .i64)))))) .str), 1, .bool, fun x => laws_FnExactMakePlan k x.1 x.2⟩
theorem ok_laws_FnExactMakePlan (k : Nat) : FnOK Try.prog 3 (fe_laws_FnExactMakePlan k) := by
  refine closed_ok (tab := [(4, fe_laws_szItemS k), (6, fe_laws_toItemS k), (5, fe_spec_MakePlan k), (7, fe_impl_MakePlan k), (8, fe_laws_eqStringS k), (9, fe_laws_eqItemS k), (12, fe_laws_heldStringS k)]) (l := [(65, 10, oc_laws_markItemS_o k), (86, 11, oc_laws_markStringS_o k)]) ti_ok ti_ht mix (List.forall_mem_cons.2 ⟨ok_laws_szItemS k, (List.forall_mem_cons.2 ⟨ok_laws_toItemS k, (List.forall_mem_cons.2 ⟨ok_spec_MakePlan k, (List.forall_mem_cons.2 ⟨ok_impl_MakePlan k, (List.forall_mem_cons.2 ⟨ok_laws_eqStringS k, (List.forall_mem_cons.2 ⟨ok_laws_eqItemS k, (List.forall_mem_cons.2 ⟨ok_laws_heldStringS k, (List.forall_mem_nil _)⟩)⟩)⟩)⟩)⟩)⟩)⟩) (List.forall_mem_cons.2 ⟨ok_laws_markItemS_o k, (List.forall_mem_cons.2 ⟨ok_laws_markStringS_o k, (List.forall_mem_nil _)⟩)⟩) ⟨⟨Try.f3, (codeOf Try.f3), [.tmp 4], (LOn Bool), by kernel_rfl, by kernel_rfl, by kernel_rfl, by kernel_rfl, rfl, by decide, ⟨by kernel_rfl, ?_, ?_⟩, ?_⟩⟩
  · exact no_loops (by kernel_rfl)
  · exact no_cuts (by kernel_rfl)
  · rintro ⟨aList0, aName1⟩
    kernel_rfl
end
end Go.Proofs.Ythninpdhnfbbjaa.Ev
