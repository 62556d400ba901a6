/- Functions of the program, as plain ones. No conditions. -/
import Derived.Test.YtackggcodaolaaaG7
import Derived.KernelRfl
set_option linter.unusedVariables false
set_option maxRecDepth 100000
namespace Go.Proofs.Ytackggcodaolaaa.Ev
open Go.RowKit
noncomputable section
/- 32 loop.example/g01005/laws.markStringS (open) -/
def laws_markStringS_o_i10_SLSII_l0 (k : Nat) : Nat → Nat → Int → Int → (List (List UInt8 × List (List UInt8) × Int × Int)) → (Int → (List (List UInt8 × List (List UInt8) × Int × Int)) → Option (((Int × Unit) × ((List (List UInt8 × List (List UInt8) × Int × Int)) × Unit) × Unit))) → Option (((Int × Unit) × ((List (List UInt8 × List (List UInt8) × Int × Int)) × Unit) × Unit))
  | 0, _, _, _, _, _ => none
  | n + 1, a0n0, k1, i5, q_2, e_0 => (q_2[a0n0]?).bind fun y_3 => (if (decide (i5 < (List.length y_3.2.1 : Int))) = true then (laws_markText k k1).bind fun r_4 => (q_2[a0n0]?).bind fun y_5 => (if 0 ≤ i5 ∧ i5.toNat < List.length y_5.2.1 then (q_2[a0n0]?).bind fun y_6 => (y_6.2.1[i5.toNat]?).bind fun y_7 => (q_2[a0n0]?).bind fun y_8 => (y_8.2.1[i5.toNat]?).bind fun y_9 => laws_markStringS_o_i10_SLSII_l0 k n a0n0 (w_i64 (k1 + 1)) (w_i64 (i5 + 1)) (q_2.set a0n0 (y_8.1, ((y_8.2.1.set i5.toNat r_4), y_8.2.2))) e_0 else none) else e_0 k1 q_2)
def laws_markStringS_o_i10_SLSII (k : Nat) (a0n0 : Nat) (k1 : Int) (q_1 : List (List UInt8 × List (List UInt8) × Int × Int)) : Option (((Int × Unit) × ((List (List UInt8 × List (List UInt8) × Int × Int)) × Unit) × Unit)) := laws_markStringS_o_i10_SLSII_l0 k k a0n0 k1 0 q_1 (fun k_10 q_11 => some ((k_10, ()), (q_11, ()), ()))
def laws_markStringS_o_i10_SLSII_l0_h : Head := ⟨[(0, (.ref 1000000000 [.ix, .f true, .f false])), (1, (.val (.int .i64))), (5, (.val (.int .i64)))], [(1000000000, 156, (.st (.pr .str (.pr (.sl 9 .str) (.pr (.int .i64) (.int .i64))))), false)], []⟩
def laws_markStringS_o_i10_SLSII_l0_x0 : Head := ⟨[(1, (.val (.int .i64)))], [(1000000000, 156, (.st (.pr .str (.pr (.sl 9 .str) (.pr (.int .i64) (.int .i64))))), false)], []⟩
def laws_markStringS_o_i10_SLSII_l0_F (k n : Nat) (x : laws_markStringS_o_i10_SLSII_l0_h.T) (kx : Nat → St → Option (((Int × Unit) × ((List (List UInt8 × List (List UInt8) × Int × Int)) × Unit) × Unit))) : Option (((Int × Unit) × ((List (List UInt8 × List (List UInt8) × Int × Int)) × Unit) × Unit)) := laws_markStringS_o_i10_SLSII_l0 k n x.1.1.1 x.1.2.1 x.1.2.2.1 x.2.1.1 (fun (k1 : Int) (q_10 : List (List UInt8 × List (List UInt8) × Int × Int)) => kx 0 (laws_markStringS_o_i10_SLSII_l0_x0.fill ((k1, ()), (q_10, ()), ())))
def laws_markStringS_o_i10_SLSII_O (k : Nat) : Oracles (((Int × Unit) × ((List (List UInt8 × List (List UInt8) × Int × Int)) × Unit) × Unit)) := ⟨fun n => bif Nat.beq n 2 then some (fun σ kx => laws_markStringS_o_i10_SLSII_l0_h.get σ fun x => laws_markStringS_o_i10_SLSII_l0_F k k x kx) else none, fun _ => none⟩
def laws_markStringS_o_i10_SLSII_hi : Head := ⟨[(0, (.ref 1000000000 [.ix, .f true, .f false])), (1, (.val (.int .i64)))], [(1000000000, 156, (.st (.pr .str (.pr (.sl 9 .str) (.pr (.int .i64) (.int .i64))))), false)], []⟩
def laws_markStringS_o_i10_SLSII_ho : Head := ⟨[(0, (.val (.int .i64)))], [(1000000000, 156, (.st (.pr .str (.pr (.sl 9 .str) (.pr (.int .i64) (.int .i64))))), false)], []⟩
def oc_laws_markStringS_o_i10_SLSII (k : Nat) : OC := ⟨laws_markStringS_o_i10_SLSII_hi, laws_markStringS_o_i10_SLSII_ho, fun x => laws_markStringS_o_i10_SLSII k x.1.1.1 x.1.2.1 x.2.1.1⟩
theorem laws_markStringS_o_i10_SLSII_l0_ok (k : Nat) (pins : Nat → Value) (pinB : Nat → Nat) : LoopOK (mkEnv ti [(62, fe_laws_markText k)] (lk []) pins pinB) (laws_markStringS_o_i10_SLSII_O k) (rdO (mkEnv ti [(62, fe_laws_markText k)] (lk []) pins pinB) [.tmp 4] laws_markStringS_o_i10_SLSII_ho) ((loopsOf (codeOf Try.f32)).getD 0 .skip) (fun σ kx => laws_markStringS_o_i10_SLSII_l0_h.get σ fun x => laws_markStringS_o_i10_SLSII_l0_F k k x kx) := by
  refine ⟨laws_markStringS_o_i10_SLSII_l0_h, [(0, laws_markStringS_o_i10_SLSII_l0_x0)], fun n x kx => laws_markStringS_o_i10_SLSII_l0_F k n x kx, k, by kernel_rfl, by kernel_rfl, fun x kx => by kernel_rfl, ?_, fun σ kx => rfl⟩
  rintro n ⟨⟨⟨a0n0, ⟨⟩⟩, k1, i5, ⟨⟩⟩, ⟨q_2, ⟨⟩⟩, ⟨⟩⟩ kx
  kernel_rfl
theorem ok_laws_markStringS_o_i10_SLSII (k : Nat) : OpenOK Try.prog ti 32 (oc_laws_markStringS_o_i10_SLSII k) := by
  refine open_ok (tab := [(62, fe_laws_markText k)]) (l := []) ti_ok ti_ht mix (List.forall_mem_cons.2 ⟨ok_laws_markText k, (List.forall_mem_nil _)⟩) (List.forall_mem_nil _) ⟨by kernel_rfl, by kernel_rfl, Try.f32, (codeOf Try.f32), [.tmp 4], (laws_markStringS_o_i10_SLSII_O k), by kernel_rfl, by kernel_rfl, by kernel_rfl, by kernel_rfl, Nat.le_of_ble_eq_true (by kernel_rfl), fun pins pinB => ⟨⟨by kernel_rfl, ?_, ?_⟩, ?_⟩⟩
  · refine loops_of (n := 1) (by kernel_rfl) fun i hi => ?_
    match i, hi with
    | 0, _ => exact loop_of (by kernel_rfl) (laws_markStringS_o_i10_SLSII_l0_ok k pins pinB)
    | n + 1, hi => omega
  · exact no_cuts (by kernel_rfl)
  · rintro ⟨⟨⟨a0n0, ⟨⟩⟩, k1, ⟨⟩⟩, ⟨q_1, ⟨⟩⟩, ⟨⟩⟩
    kernel_rfl
/- 50 loop.example/g01005/laws.markItemS (open) -/
def laws_markItemS_o_l0 (k : Nat) : Nat → Int → Int → (List (List UInt8 × List (List UInt8) × Int × Int)) → (Int → (List (List UInt8 × List (List UInt8) × Int × Int)) → Option (((Int × Unit) × ((List (List UInt8 × List (List UInt8) × Int × Int)) × Unit) × Unit))) → Option (((Int × Unit) × ((List (List UInt8 × List (List UInt8) × Int × Int)) × Unit) × Unit))
  | 0, _, _, _, _ => none
  | n + 1, k1, i5, q_2, e_0 => (if (decide (i5 < (List.length q_2 : Int))) = true then (laws_markText k k1).bind fun r_3 => (if 0 ≤ i5 ∧ i5.toNat < List.length q_2 then (q_2[i5.toNat]?).bind fun y_4 => (q_2[i5.toNat]?).bind fun y_5 => (if 0 ≤ i5 ∧ i5.toNat < List.length (q_2.set i5.toNat (r_3, y_4.2)) then ((q_2.set i5.toNat (r_3, y_4.2))[i5.toNat]?).bind fun y_6 => (laws_markStringS_o_i10_SLSII k i5.toNat (w_i64 (k1 + 1)) (q_2.set i5.toNat (r_3, y_4.2))).bind fun y_7 => (if 0 ≤ i5 ∧ i5.toNat < List.length y_7.2.1.1 then (y_7.2.1.1[i5.toNat]?).bind fun y_8 => (y_7.2.1.1[i5.toNat]?).bind fun y_9 => (if 0 ≤ i5 ∧ i5.toNat < List.length (y_7.2.1.1.set i5.toNat (y_8.1, (y_8.2.1, (y_7.1.1, y_8.2.2.2)))) then ((y_7.2.1.1.set i5.toNat (y_8.1, (y_8.2.1, (y_7.1.1, y_8.2.2.2))))[i5.toNat]?).bind fun y_10 => ((y_7.2.1.1.set i5.toNat (y_8.1, (y_8.2.1, (y_7.1.1, y_8.2.2.2))))[i5.toNat]?).bind fun y_11 => laws_markItemS_o_l0 k n (w_i64 ((w_i64 (y_7.1.1 + 1)) + 1)) (w_i64 (i5 + 1)) ((y_7.2.1.1.set i5.toNat (y_8.1, (y_8.2.1, (y_7.1.1, y_8.2.2.2)))).set i5.toNat (y_10.1, (y_10.2.1, (y_10.2.2.1, (w_i64 (y_7.1.1 + 1)))))) e_0 else none) else none) else none) else none) else e_0 k1 q_2)
def laws_markItemS_o (k : Nat) (k1 : Int) (q_1 : List (List UInt8 × List (List UInt8) × Int × Int)) : Option (((Int × Unit) × ((List (List UInt8 × List (List UInt8) × Int × Int)) × Unit) × Unit)) := laws_markItemS_o_l0 k k k1 0 q_1 (fun k_12 q_13 => some ((k_12, ()), (q_13, ()), ()))
def laws_markItemS_o_l0_h : Head := ⟨[(0, (.ref 1000000000 [])), (1, (.val (.int .i64))), (5, (.val (.int .i64)))], [(1000000000, 156, (.st (.pr .str (.pr (.sl 9 .str) (.pr (.int .i64) (.int .i64))))), false)], []⟩
def laws_markItemS_o_l0_x0 : Head := ⟨[(1, (.val (.int .i64)))], [(1000000000, 156, (.st (.pr .str (.pr (.sl 9 .str) (.pr (.int .i64) (.int .i64))))), false)], []⟩
def laws_markItemS_o_l0_F (k n : Nat) (x : laws_markItemS_o_l0_h.T) (kx : Nat → St → Option (((Int × Unit) × ((List (List UInt8 × List (List UInt8) × Int × Int)) × Unit) × Unit))) : Option (((Int × Unit) × ((List (List UInt8 × List (List UInt8) × Int × Int)) × Unit) × Unit)) := laws_markItemS_o_l0 k n x.1.2.1 x.1.2.2.1 x.2.1.1 (fun (k1 : Int) (q_13 : List (List UInt8 × List (List UInt8) × Int × Int)) => kx 0 (laws_markItemS_o_l0_x0.fill ((k1, ()), (q_13, ()), ())))
def laws_markItemS_o_O (k : Nat) : Oracles (((Int × Unit) × ((List (List UInt8 × List (List UInt8) × Int × Int)) × Unit) × Unit)) := ⟨fun n => bif Nat.beq n 2 then some (fun σ kx => laws_markItemS_o_l0_h.get σ fun x => laws_markItemS_o_l0_F k k x kx) else none, fun _ => none⟩
def laws_markItemS_o_hi : Head := ⟨[(0, (.ref 1000000000 [])), (1, (.val (.int .i64)))], [(1000000000, 156, (.st (.pr .str (.pr (.sl 9 .str) (.pr (.int .i64) (.int .i64))))), false)], []⟩
def laws_markItemS_o_ho : Head := ⟨[(0, (.val (.int .i64)))], [(1000000000, 156, (.st (.pr .str (.pr (.sl 9 .str) (.pr (.int .i64) (.int .i64))))), false)], []⟩
def oc_laws_markItemS_o (k : Nat) : OC := ⟨laws_markItemS_o_hi, laws_markItemS_o_ho, fun x => laws_markItemS_o k x.1.2.1 x.2.1.1⟩
theorem laws_markItemS_o_l0_ok (k : Nat) (pins : Nat → Value) (pinB : Nat → Nat) : LoopOK (mkEnv ti [(62, fe_laws_markText k)] (lk [(26, 32, oc_laws_markStringS_o_i10_SLSII k)]) pins pinB) (laws_markItemS_o_O k) (rdO (mkEnv ti [(62, fe_laws_markText k)] (lk [(26, 32, oc_laws_markStringS_o_i10_SLSII k)]) pins pinB) [.tmp 4] laws_markItemS_o_ho) ((loopsOf (codeOf Try.f50)).getD 0 .skip) (fun σ kx => laws_markItemS_o_l0_h.get σ fun x => laws_markItemS_o_l0_F k k x kx) := by
  refine ⟨laws_markItemS_o_l0_h, [(0, laws_markItemS_o_l0_x0)], fun n x kx => laws_markItemS_o_l0_F k n x kx, k, by kernel_rfl, by kernel_rfl, fun x kx => by kernel_rfl, ?_, fun σ kx => rfl⟩
  rintro n ⟨⟨⟨⟩, k1, i5, ⟨⟩⟩, ⟨q_2, ⟨⟩⟩, ⟨⟩⟩ kx
  kernel_rfl
theorem ok_laws_markItemS_o (k : Nat) : OpenOK Try.prog ti 50 (oc_laws_markItemS_o k) := by
  refine open_ok (tab := [(62, fe_laws_markText k)]) (l := [(26, 32, oc_laws_markStringS_o_i10_SLSII k)]) ti_ok ti_ht mix (List.forall_mem_cons.2 ⟨ok_laws_markText k, (List.forall_mem_nil _)⟩) (List.forall_mem_cons.2 ⟨ok_laws_markStringS_o_i10_SLSII k, (List.forall_mem_nil _)⟩) ⟨by kernel_rfl, by kernel_rfl, Try.f50, (codeOf Try.f50), [.tmp 4], (laws_markItemS_o_O k), by kernel_rfl, by kernel_rfl, by kernel_rfl, by kernel_rfl, Nat.le_of_ble_eq_true (by kernel_rfl), fun pins pinB => ⟨⟨by kernel_rfl, ?_, ?_⟩, ?_⟩⟩
  · refine loops_of (n := 1) (by kernel_rfl) fun i hi => ?_
    match i, hi with
    | 0, _ => exact loop_of (by kernel_rfl) (laws_markItemS_o_l0_ok k pins pinB)
    | n + 1, hi => omega
  · exact no_cuts (by kernel_rfl)
  · rintro ⟨⟨⟨⟩, k1, ⟨⟩⟩, ⟨q_1, ⟨⟩⟩, ⟨⟩⟩
    kernel_rfl
/- 32 loop.example/g01005/laws.markStringS (open) -/
def laws_markStringS_o_l0 (k : Nat) : Nat → Int → Int → (List (List UInt8)) → (Int → (List (List UInt8)) → Option (((Int × Unit) × ((List (List UInt8)) × Unit) × Unit))) → Option (((Int × Unit) × ((List (List UInt8)) × Unit) × Unit))
  | 0, _, _, _, _ => none
  | n + 1, k1, i5, q_2, e_0 => (if (decide (i5 < (List.length q_2 : Int))) = true then (laws_markText k k1).bind fun r_3 => (if 0 ≤ i5 ∧ i5.toNat < List.length q_2 then (q_2[i5.toNat]?).bind fun y_4 => (q_2[i5.toNat]?).bind fun y_5 => laws_markStringS_o_l0 k n (w_i64 (k1 + 1)) (w_i64 (i5 + 1)) (q_2.set i5.toNat r_3) e_0 else none) else e_0 k1 q_2)
def laws_markStringS_o (k : Nat) (k1 : Int) (q_1 : List (List UInt8)) : Option (((Int × Unit) × ((List (List UInt8)) × Unit) × Unit)) := laws_markStringS_o_l0 k k k1 0 q_1 (fun k_6 q_7 => some ((k_6, ()), (q_7, ()), ()))
def laws_markStringS_o_l0_h : Head := ⟨[(0, (.ref 1000000000 [])), (1, (.val (.int .i64))), (5, (.val (.int .i64)))], [(1000000000, 9, .str, false)], []⟩
def laws_markStringS_o_l0_x0 : Head := ⟨[(1, (.val (.int .i64)))], [(1000000000, 9, .str, false)], []⟩
def laws_markStringS_o_l0_F (k n : Nat) (x : laws_markStringS_o_l0_h.T) (kx : Nat → St → Option (((Int × Unit) × ((List (List UInt8)) × Unit) × Unit))) : Option (((Int × Unit) × ((List (List UInt8)) × Unit) × Unit)) := laws_markStringS_o_l0 k n x.1.2.1 x.1.2.2.1 x.2.1.1 (fun (k1 : Int) (q_6 : List (List UInt8)) => kx 0 (laws_markStringS_o_l0_x0.fill ((k1, ()), (q_6, ()), ())))
def laws_markStringS_o_O (k : Nat) : Oracles (((Int × Unit) × ((List (List UInt8)) × Unit) × Unit)) := ⟨fun n => bif Nat.beq n 2 then some (fun σ kx => laws_markStringS_o_l0_h.get σ fun x => laws_markStringS_o_l0_F k k x kx) else none, fun _ => none⟩
def laws_markStringS_o_hi : Head := ⟨[(0, (.ref 1000000000 [])), (1, (.val (.int .i64)))], [(1000000000, 9, .str, false)], []⟩
def laws_markStringS_o_ho : Head := ⟨[(0, (.val (.int .i64)))], [(1000000000, 9, .str, false)], []⟩
def oc_laws_markStringS_o (k : Nat) : OC := ⟨laws_markStringS_o_hi, laws_markStringS_o_ho, fun x => laws_markStringS_o k x.1.2.1 x.2.1.1⟩
theorem laws_markStringS_o_l0_ok (k : Nat) (pins : Nat → Value) (pinB : Nat → Nat) : LoopOK (mkEnv ti [(62, fe_laws_markText k)] (lk []) pins pinB) (laws_markStringS_o_O k) (rdO (mkEnv ti [(62, fe_laws_markText k)] (lk []) pins pinB) [.tmp 4] laws_markStringS_o_ho) ((loopsOf (codeOf Try.f32)).getD 0 .skip) (fun σ kx => laws_markStringS_o_l0_h.get σ fun x => laws_markStringS_o_l0_F k k x kx) := by
  refine ⟨laws_markStringS_o_l0_h, [(0, laws_markStringS_o_l0_x0)], fun n x kx => laws_markStringS_o_l0_F k n x kx, k, by kernel_rfl, by kernel_rfl, fun x kx => by kernel_rfl, ?_, fun σ kx => rfl⟩
  rintro n ⟨⟨⟨⟩, k1, i5, ⟨⟩⟩, ⟨q_2, ⟨⟩⟩, ⟨⟩⟩ kx
  kernel_rfl
theorem ok_laws_markStringS_o (k : Nat) : OpenOK Try.prog ti 32 (oc_laws_markStringS_o k) := by
  refine open_ok (tab := [(62, fe_laws_markText k)]) (l := []) ti_ok ti_ht mix (List.forall_mem_cons.2 ⟨ok_laws_markText k, (List.forall_mem_nil _)⟩) (List.forall_mem_nil _) ⟨by kernel_rfl, by kernel_rfl, Try.f32, (codeOf Try.f32), [.tmp 4], (laws_markStringS_o_O k), by kernel_rfl, by kernel_rfl, by kernel_rfl, by kernel_rfl, Nat.le_of_ble_eq_true (by kernel_rfl), fun pins pinB => ⟨⟨by kernel_rfl, ?_, ?_⟩, ?_⟩⟩
  · refine loops_of (n := 1) (by kernel_rfl) fun i hi => ?_
    match i, hi with
    | 0, _ => exact loop_of (by kernel_rfl) (laws_markStringS_o_l0_ok k pins pinB)
    | n + 1, hi => omega
  · exact no_cuts (by kernel_rfl)
  · rintro ⟨⟨⟨⟩, k1, ⟨⟩⟩, ⟨q_1, ⟨⟩⟩, ⟨⟩⟩
    kernel_rfl
/- 33 loop.example/g01005/laws.heldStringS -/
def laws_heldStringS_l0 (k : Nat) : Nat → (List (List UInt8)) → Int → Int → (Int → Option Int) → Option Int
  | 0, _, _, _, _ => none
  | n + 1, a0, k1, i5, e_0 => (if (decide (i5 < (List.length a0 : Int))) = true then (if 0 ≤ i5 then (a0[i5.toNat]?).bind fun y_1 => (laws_markText k k1).bind fun r_2 => (if (!(decide (y_1 = r_2))) = true then some (-1) else laws_heldStringS_l0 k n a0 (w_i64 (k1 + 1)) (w_i64 (i5 + 1)) e_0) else none) else e_0 k1)
def laws_heldStringS (k : Nat) (a0 : List (List UInt8)) (k1 : Int) : Option Int := laws_heldStringS_l0 k k a0 k1 0 (fun k_3 => some k_3)
def laws_heldStringS_l0_h : Head := ⟨[(0, (.val (.sl 9 .str))), (1, (.val (.int .i64))), (5, (.val (.int .i64)))], [], []⟩
def laws_heldStringS_l0_x0 : Head := ⟨[(1, (.val (.int .i64)))], [], []⟩
def laws_heldStringS_l0_F (k n : Nat) (x : laws_heldStringS_l0_h.T) (kx : Nat → St → Option Int) : Option Int := laws_heldStringS_l0 k n x.1.1 x.1.2.1 x.1.2.2.1 (fun (k1 : Int) => kx 0 (laws_heldStringS_l0_x0.fill ((k1, ()), (), ())))
def laws_heldStringS_O (k : Nat) : Oracles Int := ⟨fun n => bif Nat.beq n 2 then some (fun σ kx => laws_heldStringS_l0_h.get σ fun x => laws_heldStringS_l0_F k k x kx) else none, fun _ => none⟩
def fe_laws_heldStringS (k : Nat) : FE := ⟨(.pr (.sl 9 .str) (.int .i64)), 1, (.int .i64), fun x => laws_heldStringS k x.1 x.2⟩
theorem laws_heldStringS_l0_ok (k : Nat) : LoopOK (mkEnv ti [(62, fe_laws_markText k)] (lk []) pins0 pinB0) (laws_heldStringS_O k) (rdC (mkEnv ti [(62, fe_laws_markText k)] (lk []) pins0 pinB0) [.tmp 4] (.int .i64)) ((loopsOf (codeOf Try.f33)).getD 0 .skip) (fun σ kx => laws_heldStringS_l0_h.get σ fun x => laws_heldStringS_l0_F k k x kx) := by
  refine ⟨laws_heldStringS_l0_h, [(0, laws_heldStringS_l0_x0)], fun n x kx => laws_heldStringS_l0_F k n x kx, k, by kernel_rfl, by kernel_rfl, fun x kx => by kernel_rfl, ?_, fun σ kx => rfl⟩
  rintro n ⟨⟨a0, k1, i5, ⟨⟩⟩, ⟨⟩, ⟨⟩⟩ kx
  kernel_rfl
theorem ok_laws_heldStringS (k : Nat) : FnOK Try.prog 33 (fe_laws_heldStringS k) := by
  refine closed_ok (tab := [(62, fe_laws_markText k)]) (l := []) ti_ok ti_ht mix (List.forall_mem_cons.2 ⟨ok_laws_markText k, (List.forall_mem_nil _)⟩) (List.forall_mem_nil _) ⟨⟨Try.f33, (codeOf Try.f33), [.tmp 4], (laws_heldStringS_O k), by kernel_rfl, by kernel_rfl, by kernel_rfl, by kernel_rfl, rfl, by decide, ⟨by kernel_rfl, ?_, ?_⟩, ?_⟩⟩
  · refine loops_of (n := 1) (by kernel_rfl) fun i hi => ?_
    match i, hi with
    | 0, _ => exact loop_of (by kernel_rfl) (laws_heldStringS_l0_ok k)
    | n + 1, hi => omega
  · exact no_cuts (by kernel_rfl)
  · rintro ⟨a0, k1⟩
    kernel_rfl
/- 10 loop.example/g01005/laws.FnExactAllNeeds -/
def laws_FnExactAllNeeds (k : Nat) (aList0 : List (List UInt8 × List (List UInt8) × Int × Int)) (aName1 : List UInt8) : Option Bool := (if (decide (1048576 < (List.length aName1 : Int))) = true then some true else (laws_szItemS k aList0 1048576).bind fun r_1 => (if (decide (r_1 < 0)) = true then some true else (laws_toItemS k aList0).bind fun r_2 => (spec_AllNeeds k r_2 aName1).bind fun r_3 => (laws_toItemS k aList0).bind fun r_4 => (impl_AllNeeds k r_4 aName1).bind fun r_5 => (laws_eqStringS k r_5.1 r_3.1).bind fun r_6 => (if (!r_6) = true then some false else (if (!(decide (r_5.2 = r_3.2))) = true then some false else (laws_toItemS k aList0).bind fun r_7 => (laws_eqItemS k r_4 r_7).bind fun r_8 => (if (!r_8) = true then some false else (laws_markItemS_o k 1 r_4).bind fun y_9 => (if (decide (y_9.1.1 < 0)) = true then some false else (laws_eqStringS k r_5.1 r_3.1).bind fun r_10 => (if (!r_10) = true then some false else (if (!(decide (r_5.2 = r_3.2))) = true then some false else (laws_markStringS_o k 1 r_5.1).bind fun y_11 => (laws_heldStringS k y_11.2.1.1 1).bind fun r_12 => (if (decide (r_12 < 0)) = true then some false else (if (!(decide (r_12 = y_11.1.1))) = true then some false else (laws_toItemS k aList0).bind fun r_13 => (impl_AllNeeds k r_13 aName1).bind fun r_14 => (laws_eqStringS k r_14.1 r_3.1).bind fun r_15 => (if (!r_15) = true then some false else (if (!(decide (r_14.2 = r_3.2))) = true then some false else (laws_heldStringS k y_11.2.1.1 1).bind fun r_16 => (if (decide (r_16 < 0)) = true then some false else (if (!(decide (r_16 = y_11.1.1))) = true then some false else some true))))))))))))))
def fe_laws_FnExactAllNeeds (k : Nat) : FE := ⟨(.pr (.sl 151 (.st (.pr .str (.pr (.sl 9 .str) (.pr (.int .i64) (.int .i64)))))) .str), 1, .bool, fun x => laws_FnExactAllNeeds k x.1 x.2⟩
theorem ok_laws_FnExactAllNeeds (k : Nat) : FnOK Try.prog 10 (fe_laws_FnExactAllNeeds k) := by
  refine closed_ok (tab := [(45, fe_laws_szItemS k), (47, fe_laws_toItemS k), (51, fe_spec_AllNeeds k), (52, fe_impl_AllNeeds k), (29, fe_laws_eqStringS k), (49, fe_laws_eqItemS k), (33, fe_laws_heldStringS k)]) (l := [(55, 50, oc_laws_markItemS_o k), (71, 32, oc_laws_markStringS_o k)]) ti_ok ti_ht mix (List.forall_mem_cons.2 ⟨ok_laws_szItemS k, (List.forall_mem_cons.2 ⟨ok_laws_toItemS k, (List.forall_mem_cons.2 ⟨ok_spec_AllNeeds k, (List.forall_mem_cons.2 ⟨ok_impl_AllNeeds k, (List.forall_mem_cons.2 ⟨ok_laws_eqStringS k, (List.forall_mem_cons.2 ⟨ok_laws_eqItemS k, (List.forall_mem_cons.2 ⟨ok_laws_heldStringS k, (List.forall_mem_nil _)⟩)⟩)⟩)⟩)⟩)⟩)⟩) (List.forall_mem_cons.2 ⟨ok_laws_markItemS_o k, (List.forall_mem_cons.2 ⟨ok_laws_markStringS_o k, (List.forall_mem_nil _)⟩)⟩) ⟨⟨Try.f10, (codeOf Try.f10), [.tmp 4], (LOn Bool), by kernel_rfl, by kernel_rfl, by kernel_rfl, by kernel_rfl, rfl, by decide, ⟨by kernel_rfl, ?_, ?_⟩, ?_⟩⟩
  · exact no_loops (by kernel_rfl)
  · exact no_cuts (by kernel_rfl)
  · rintro ⟨aList0, aName1⟩
    kernel_rfl
/- 117 loop.example/g01005/spec.l28Stale -/
def spec_l28Stale_l1 (k : Nat) : Nat → (List (List UInt8 × List (List UInt8) × Int × Int)) → Int → Int → Int → (List Int) → (List Bool) → ((List (List UInt8 × List (List UInt8) × Int × Int)) → Int → (List Int) → (List Bool) → Option (List Bool)) → Option (List Bool)
  | 0, _, _, _, _, _, _, _ => none
  | n + 1, list0, i5, at6, k7, q_8, q_9, e_2 => (if 0 ≤ at6 then (list0[at6.toNat]?).bind fun y_10 => (if (decide (k7 < (List.length y_10.2.1 : Int))) = true then (if 0 ≤ at6 then (list0[at6.toNat]?).bind fun y_11 => (if 0 ≤ k7 then (y_11.2.1[k7.toNat]?).bind fun y_12 => (spec_l28Find k list0 y_12).bind fun r_13 => (if 0 ≤ at6 ∧ at6.toNat < List.length q_9 then (q_9[at6.toNat]?).bind fun y_14 => (if y_14 = true then (if 0 ≤ at6 ∧ at6.toNat < List.length q_9 then (q_9[at6.toNat]?).bind fun y_15 => (q_9[at6.toNat]?).bind fun y_16 => spec_l28Stale_l1 k n list0 i5 at6 (w_i64 (k7 + 1)) q_8 (q_9.set at6.toNat true) e_2 else none) else (if 0 ≤ r_13 ∧ r_13.toNat < List.length q_9 then (q_9[r_13.toNat]?).bind fun y_17 => (if y_17 = true then (if 0 ≤ at6 ∧ at6.toNat < List.length q_9 then (q_9[at6.toNat]?).bind fun y_18 => (q_9[at6.toNat]?).bind fun y_19 => spec_l28Stale_l1 k n list0 i5 at6 (w_i64 (k7 + 1)) q_8 (q_9.set at6.toNat true) e_2 else none) else (if 0 ≤ r_13 then (list0[r_13.toNat]?).bind fun y_20 => (if 0 ≤ at6 then (list0[at6.toNat]?).bind fun y_21 => (if 0 ≤ at6 ∧ at6.toNat < List.length q_9 then (q_9[at6.toNat]?).bind fun y_22 => (q_9[at6.toNat]?).bind fun y_23 => spec_l28Stale_l1 k n list0 i5 at6 (w_i64 (k7 + 1)) q_8 (q_9.set at6.toNat (decide (y_21.2.2.1 < y_20.2.2.1))) e_2 else none) else none) else none)) else none)) else none) else none) else none) else e_2 list0 i5 q_8 q_9) else none)
def spec_l28Stale_l0 (k : Nat) : Nat → (List (List UInt8 × List (List UInt8) × Int × Int)) → Int → (List Int) → (List Bool) → ((List Bool) → Option (List Bool)) → Option (List Bool)
  | 0, _, _, _, _, _ => none
  | n + 1, list0, i5, q_2, q_3, e_0 => (if (decide (i5 < (List.length q_2 : Int))) = true then (if 0 ≤ i5 ∧ i5.toNat < List.length q_2 then (q_2[i5.toNat]?).bind fun y_4 => (if 0 ≤ y_4 then (list0[y_4.toNat]?).bind fun y_5 => (if 0 ≤ y_4 ∧ y_4.toNat < List.length q_3 then (q_3[y_4.toNat]?).bind fun y_6 => (q_3[y_4.toNat]?).bind fun y_7 => spec_l28Stale_l1 k k list0 i5 y_4 0 q_2 (q_3.set y_4.toNat (decide (y_5.2.2.1 = 0))) (fun list_8 i_9 q_10 q_11 => spec_l28Stale_l0 k n list_8 (w_i64 (i_9 + 1)) q_10 q_11 e_0) else none) else none) else none) else e_0 q_3)
def spec_l28Stale (k : Nat) (list0 : List (List UInt8 × List (List UInt8) × Int × Int)) : Option (List Bool) := (spec_l28Order k list0).bind fun r_1 => (if 0 ≤ (List.length list0 : Int) ∧ (List.length list0 : Int) ≤ (List.length list0 : Int) ∧ (List.length list0 : Int) * 1 ≤ LIM then spec_l28Stale_l0 k k list0 0 r_1 (List.replicate (List.length list0) false) (fun q_12 => some q_12) else none)
def spec_l28Stale_l1_h : Head := ⟨[(0, (.val (.sl 156 (.st (.pr .str (.pr (.sl 9 .str) (.pr (.int .i64) (.int .i64)))))))), (3, (.ref 64000000 [])), (4, (.ref 64000001 [])), (5, (.val (.int .i64))), (6, (.val (.int .i64))), (7, (.val (.int .i64)))], [(64000000, 3, (.int .i64), false), (64000001, 4, .bool, false)], []⟩
def spec_l28Stale_l1_x2 : Head := ⟨[(0, (.val (.sl 156 (.st (.pr .str (.pr (.sl 9 .str) (.pr (.int .i64) (.int .i64)))))))), (3, (.ref 64000000 [])), (4, (.ref 64000001 [])), (5, (.val (.int .i64)))], [(64000000, 3, (.int .i64), false), (64000001, 4, .bool, false)], []⟩
def spec_l28Stale_l1_F (k n : Nat) (x : spec_l28Stale_l1_h.T) (kx : Nat → St → Option (List Bool)) : Option (List Bool) := spec_l28Stale_l1 k n x.1.1 x.1.2.2.2.1 x.1.2.2.2.2.1 x.1.2.2.2.2.2.1 x.2.1.1 x.2.1.2.1 (fun (list0 : List (List UInt8 × List (List UInt8) × Int × Int)) (i5 : Int) (q_24 : List Int) (q_25 : List Bool) => kx 2 (spec_l28Stale_l1_x2.fill ((list0, (), (), i5, ()), (q_24, q_25, ()), ())))
def spec_l28Stale_l0_h : Head := ⟨[(0, (.val (.sl 156 (.st (.pr .str (.pr (.sl 9 .str) (.pr (.int .i64) (.int .i64)))))))), (3, (.ref 64000000 [])), (4, (.ref 64000001 [])), (5, (.val (.int .i64)))], [(64000000, 3, (.int .i64), false), (64000001, 4, .bool, false)], []⟩
def spec_l28Stale_l0_x0 : Head := ⟨[(4, (.ref 64000000 []))], [(64000000, 4, .bool, false)], []⟩
def spec_l28Stale_l0_F (k n : Nat) (x : spec_l28Stale_l0_h.T) (kx : Nat → St → Option (List Bool)) : Option (List Bool) := spec_l28Stale_l0 k n x.1.1 x.1.2.2.2.1 x.2.1.1 x.2.1.2.1 (fun (q_28 : List Bool) => kx 0 (spec_l28Stale_l0_x0.fill (((), ()), (q_28, ()), ())))
def spec_l28Stale_O (k : Nat) : Oracles (List Bool) := ⟨fun n => bif Nat.beq n 9 then some (fun σ kx => spec_l28Stale_l1_h.get σ fun x => spec_l28Stale_l1_F k k x kx) else bif Nat.beq n 4 then some (fun σ kx => spec_l28Stale_l0_h.get σ fun x => spec_l28Stale_l0_F k k x kx) else none, fun _ => none⟩
def fe_spec_l28Stale (k : Nat) : FE := ⟨(.sl 156 (.st (.pr .str (.pr (.sl 9 .str) (.pr (.int .i64) (.int .i64)))))), 1, (.sl 4 .bool), fun x => spec_l28Stale k x⟩
theorem spec_l28Stale_l1_ok (k : Nat) : LoopOK (mkEnv ti [(182, fe_spec_l28Order k), (125, fe_spec_l28Find k)] (lk []) pins0 pinB0) (spec_l28Stale_O k) (rdC (mkEnv ti [(182, fe_spec_l28Order k), (125, fe_spec_l28Find k)] (lk []) pins0 pinB0) [.tmp 2] (.sl 4 .bool)) ((loopsOf (codeOf Try.f117)).getD 1 .skip) (fun σ kx => spec_l28Stale_l1_h.get σ fun x => spec_l28Stale_l1_F k k x kx) := by
  refine ⟨spec_l28Stale_l1_h, [(2, spec_l28Stale_l1_x2)], fun n x kx => spec_l28Stale_l1_F k n x kx, k, by kernel_rfl, by kernel_rfl, fun x kx => by kernel_rfl, ?_, fun σ kx => rfl⟩
  rintro n ⟨⟨list0, ⟨⟩, ⟨⟩, i5, at6, k7, ⟨⟩⟩, ⟨q_8, q_9, ⟨⟩⟩, ⟨⟩⟩ kx
  kernel_rfl
theorem spec_l28Stale_l0_ok (k : Nat) : LoopOK (mkEnv ti [(182, fe_spec_l28Order k), (125, fe_spec_l28Find k)] (lk []) pins0 pinB0) (spec_l28Stale_O k) (rdC (mkEnv ti [(182, fe_spec_l28Order k), (125, fe_spec_l28Find k)] (lk []) pins0 pinB0) [.tmp 2] (.sl 4 .bool)) ((loopsOf (codeOf Try.f117)).getD 0 .skip) (fun σ kx => spec_l28Stale_l0_h.get σ fun x => spec_l28Stale_l0_F k k x kx) := by
  refine ⟨spec_l28Stale_l0_h, [(0, spec_l28Stale_l0_x0)], fun n x kx => spec_l28Stale_l0_F k n x kx, k, by kernel_rfl, by kernel_rfl, fun x kx => by kernel_rfl, ?_, fun σ kx => rfl⟩
  rintro n ⟨⟨list0, ⟨⟩, ⟨⟩, i5, ⟨⟩⟩, ⟨q_2, q_3, ⟨⟩⟩, ⟨⟩⟩ kx
  kernel_rfl
theorem ok_spec_l28Stale (k : Nat) : FnOK Try.prog 117 (fe_spec_l28Stale k) := by
  refine closed_ok (tab := [(182, fe_spec_l28Order k), (125, fe_spec_l28Find k)]) (l := []) ti_ok ti_ht mix (List.forall_mem_cons.2 ⟨ok_spec_l28Order k, (List.forall_mem_cons.2 ⟨ok_spec_l28Find k, (List.forall_mem_nil _)⟩)⟩) (List.forall_mem_nil _) ⟨⟨Try.f117, (codeOf Try.f117), [.tmp 2], (spec_l28Stale_O k), by kernel_rfl, by kernel_rfl, by kernel_rfl, by kernel_rfl, rfl, by decide, ⟨by kernel_rfl, ?_, ?_⟩, ?_⟩⟩
  · refine loops_of (n := 2) (by kernel_rfl) fun i hi => ?_
    match i, hi with
    | 0, _ => exact loop_of (by kernel_rfl) (spec_l28Stale_l0_ok k)
    | 1, _ => exact loop_of (by kernel_rfl) (spec_l28Stale_l1_ok k)
    | n + 2, hi => omega
  · exact no_cuts (by kernel_rfl)
  · rintro list0
    kernel_rfl
/- 46 loop.example/g01005/spec.StaleItems -/
def spec_StaleItems (k : Nat) (list0 : List (List UInt8 × List (List UInt8) × Int × Int)) : Option (List (List UInt8) × Int) := (spec_l28Ok k list0).bind fun r_1 => (if (!r_1) = true then some ([], 1) else (spec_l28Stale k list0).bind fun r_2 => (spec_l28Names k list0 r_2).bind fun r_3 => some (r_3, 0))
def fe_spec_StaleItems (k : Nat) : FE := ⟨(.sl 156 (.st (.pr .str (.pr (.sl 9 .str) (.pr (.int .i64) (.int .i64)))))), 2, (.pr (.sl 9 .str) (.int .i64)), fun x => spec_StaleItems k x⟩
theorem ok_spec_StaleItems (k : Nat) : FnOK Try.prog 46 (fe_spec_StaleItems k) := by
  refine closed_ok (tab := [(115, fe_spec_l28Ok k), (117, fe_spec_l28Stale k), (116, fe_spec_l28Names k)]) (l := []) ti_ok ti_ht mix (List.forall_mem_cons.2 ⟨ok_spec_l28Ok k, (List.forall_mem_cons.2 ⟨ok_spec_l28Stale k, (List.forall_mem_cons.2 ⟨ok_spec_l28Names k, (List.forall_mem_nil _)⟩)⟩)⟩) (List.forall_mem_nil _) ⟨⟨Try.f46, (codeOf Try.f46), [.tmp 2, .tmp 3], (LOn (List (List UInt8) × Int)), by kernel_rfl, by kernel_rfl, by kernel_rfl, by kernel_rfl, rfl, by decide, ⟨by kernel_rfl, ?_, ?_⟩, ?_⟩⟩
  · exact no_loops (by kernel_rfl)
  · exact no_cuts (by kernel_rfl)
  · rintro list0
    kernel_rfl
/- 190 loop.example/g01005/impl.staleItems$1 -/
def impl_staleItems_1 (k : Nat) (n0 : List UInt8) (x1 : List (List UInt8)) (x2 : List (List UInt8 × List (List UInt8) × Int × Int)) (x3 : List UInt8 × List (List UInt8) × Int × Int) : Option Bool := (slices_Contains_string k x1 n0).bind fun r_1 => (if r_1 = true then some true else (impl_itemNamed_r k x2 n0).bind fun r_2 => some (decide (x3.2.2.1 < r_2.2.2.1)))
def fe_impl_staleItems_1 (k : Nat) : FE := ⟨(.pr .str (.pr (.ptr (.sl 9 .str)) (.pr (.ptr (.sl 156 (.st (.pr .str (.pr (.sl 9 .str) (.pr (.int .i64) (.int .i64))))))) (.ptr (.st (.pr .str (.pr (.sl 9 .str) (.pr (.int .i64) (.int .i64))))))))), 1, .bool, fun x => impl_staleItems_1 k x.1 x.2.1 x.2.2.1 x.2.2.2⟩
theorem ok_impl_staleItems_1 (k : Nat) : FnOK Try.prog 190 (fe_impl_staleItems_1 k) := by
  refine closed_ok (tab := [(128, fe_slices_Contains_string k), (189, fe_impl_itemNamed_r k)]) (l := []) ti_ok ti_ht mix (List.forall_mem_cons.2 ⟨ok_slices_Contains_string k, (List.forall_mem_cons.2 ⟨ok_impl_itemNamed_r k, (List.forall_mem_nil _)⟩)⟩) (List.forall_mem_nil _) ⟨⟨Try.f190, (codeOf Try.f190), [.tmp 5], (LOn Bool), by kernel_rfl, by kernel_rfl, by kernel_rfl, by kernel_rfl, rfl, by decide, ⟨by kernel_rfl, ?_, ?_⟩, ?_⟩⟩
  · exact no_loops (by kernel_rfl)
  · exact no_cuts (by kernel_rfl)
  · rintro ⟨n0, x1, x2, x3⟩
    kernel_rfl
/- 230 slices.IndexFunc[[]string,string] -/
def slices_IndexFunc_string__impl_staleItems_1_l0 (k : Nat) : Nat → (List (List UInt8)) → (List (List UInt8) × (List (List UInt8 × List (List UInt8) × Int × Int)) × List UInt8 × List (List UInt8) × Int × Int) → Int → Int → (Option Int) → Option Int
  | 0, _, _, _, _, _ => none
  | n + 1, s0, f1, x7, x8, e_0 => (if (decide (x8 < x7)) = true then (if 0 ≤ x8 then (s0[x8.toNat]?).bind fun y_1 => (impl_staleItems_1 k y_1 f1.1 f1.2.1 f1.2.2).bind fun r_2 => (if r_2 = true then some x8 else slices_IndexFunc_string__impl_staleItems_1_l0 k n s0 f1 x7 (w_i64 (x8 + 1)) e_0) else none) else e_0)
def slices_IndexFunc_string__impl_staleItems_1 (k : Nat) (s0 : List (List UInt8)) (f1 : List (List UInt8) × (List (List UInt8 × List (List UInt8) × Int × Int)) × List UInt8 × List (List UInt8) × Int × Int) : Option Int := slices_IndexFunc_string__impl_staleItems_1_l0 k k s0 f1 (List.length s0 : Int) 0 (some (-1))
def slices_IndexFunc_string__impl_staleItems_1_l0_h : Head := ⟨[(0, (.val (.sl 9 .str))), (1, (.val (.fn 190 (.pr (.ptr (.sl 9 .str)) (.pr (.ptr (.sl 156 (.st (.pr .str (.pr (.sl 9 .str) (.pr (.int .i64) (.int .i64))))))) (.ptr (.st (.pr .str (.pr (.sl 9 .str) (.pr (.int .i64) (.int .i64))))))))))), (7, (.val (.int .i64))), (8, (.val (.int .i64)))], [], []⟩
def slices_IndexFunc_string__impl_staleItems_1_l0_x0 : Head := ⟨[], [], []⟩
def slices_IndexFunc_string__impl_staleItems_1_l0_F (k n : Nat) (x : slices_IndexFunc_string__impl_staleItems_1_l0_h.T) (kx : Nat → St → Option Int) : Option Int := slices_IndexFunc_string__impl_staleItems_1_l0 k n x.1.1 x.1.2.1 x.1.2.2.1 x.1.2.2.2.1 (kx 0 (slices_IndexFunc_string__impl_staleItems_1_l0_x0.fill ((), (), ())))
def slices_IndexFunc_string__impl_staleItems_1_O (k : Nat) : Oracles Int := ⟨fun n => bif Nat.beq n 2 then some (fun σ kx => slices_IndexFunc_string__impl_staleItems_1_l0_h.get σ fun x => slices_IndexFunc_string__impl_staleItems_1_l0_F k k x kx) else none, fun _ => none⟩
def fe_slices_IndexFunc_string__impl_staleItems_1 (k : Nat) : FE := ⟨(.pr (.sl 9 .str) (.fn 190 (.pr (.ptr (.sl 9 .str)) (.pr (.ptr (.sl 156 (.st (.pr .str (.pr (.sl 9 .str) (.pr (.int .i64) (.int .i64))))))) (.ptr (.st (.pr .str (.pr (.sl 9 .str) (.pr (.int .i64) (.int .i64)))))))))), 1, (.int .i64), fun x => slices_IndexFunc_string__impl_staleItems_1 k x.1 x.2⟩
theorem slices_IndexFunc_string__impl_staleItems_1_l0_ok (k : Nat) : LoopOK (mkEnv ti [(190, fe_impl_staleItems_1 k)] (lk []) pins0 pinB0) (slices_IndexFunc_string__impl_staleItems_1_O k) (rdC (mkEnv ti [(190, fe_impl_staleItems_1 k)] (lk []) pins0 pinB0) [.tmp 4] (.int .i64)) ((loopsOf (codeOf Try.f230)).getD 0 .skip) (fun σ kx => slices_IndexFunc_string__impl_staleItems_1_l0_h.get σ fun x => slices_IndexFunc_string__impl_staleItems_1_l0_F k k x kx) := by
  refine ⟨slices_IndexFunc_string__impl_staleItems_1_l0_h, [(0, slices_IndexFunc_string__impl_staleItems_1_l0_x0)], fun n x kx => slices_IndexFunc_string__impl_staleItems_1_l0_F k n x kx, k, by kernel_rfl, by kernel_rfl, fun x kx => by kernel_rfl, ?_, fun σ kx => rfl⟩
  rintro n ⟨⟨s0, f1, x7, x8, ⟨⟩⟩, ⟨⟩, ⟨⟩⟩ kx
  kernel_rfl
theorem ok_slices_IndexFunc_string__impl_staleItems_1 (k : Nat) : FnOK Try.prog 230 (fe_slices_IndexFunc_string__impl_staleItems_1 k) := by
  refine closed_ok (tab := [(190, fe_impl_staleItems_1 k)]) (l := []) ti_ok ti_ht mix (List.forall_mem_cons.2 ⟨ok_impl_staleItems_1 k, (List.forall_mem_nil _)⟩) (List.forall_mem_nil _) ⟨⟨Try.f230, (codeOf Try.f230), [.tmp 4], (slices_IndexFunc_string__impl_staleItems_1_O k), by kernel_rfl, by kernel_rfl, by kernel_rfl, by kernel_rfl, rfl, by decide, ⟨by kernel_rfl, ?_, ?_⟩, ?_⟩⟩
  · refine loops_of (n := 1) (by kernel_rfl) fun i hi => ?_
    match i, hi with
    | 0, _ => exact loop_of (by kernel_rfl) (slices_IndexFunc_string__impl_staleItems_1_l0_ok k)
    | n + 1, hi => omega
  · exact no_cuts (by kernel_rfl)
  · rintro ⟨s0, f1⟩
    kernel_rfl
/- 186 slices.ContainsFunc[[]string,string] -/
def slices_ContainsFunc_string__impl_staleItems_1 (k : Nat) (s0 : List (List UInt8)) (f1 : List (List UInt8) × (List (List UInt8 × List (List UInt8) × Int × Int)) × List UInt8 × List (List UInt8) × Int × Int) : Option Bool := (slices_IndexFunc_string__impl_staleItems_1 k s0 f1).bind fun r_1 => some (decide (0 ≤ r_1))
def fe_slices_ContainsFunc_string__impl_staleItems_1 (k : Nat) : FE := ⟨(.pr (.sl 9 .str) (.fn 190 (.pr (.ptr (.sl 9 .str)) (.pr (.ptr (.sl 156 (.st (.pr .str (.pr (.sl 9 .str) (.pr (.int .i64) (.int .i64))))))) (.ptr (.st (.pr .str (.pr (.sl 9 .str) (.pr (.int .i64) (.int .i64)))))))))), 1, .bool, fun x => slices_ContainsFunc_string__impl_staleItems_1 k x.1 x.2⟩
theorem ok_slices_ContainsFunc_string__impl_staleItems_1 (k : Nat) : FnOK Try.prog 186 (fe_slices_ContainsFunc_string__impl_staleItems_1 k) := by
  refine closed_ok (tab := [(230, fe_slices_IndexFunc_string__impl_staleItems_1 k)]) (l := []) ti_ok ti_ht mix (List.forall_mem_cons.2 ⟨ok_slices_IndexFunc_string__impl_staleItems_1 k, (List.forall_mem_nil _)⟩) (List.forall_mem_nil _) ⟨⟨Try.f186, (codeOf Try.f186), [.tmp 4], (LOn Bool), by kernel_rfl, by kernel_rfl, by kernel_rfl, by kernel_rfl, rfl, by decide, ⟨by kernel_rfl, ?_, ?_⟩, ?_⟩⟩
  · exact no_loops (by kernel_rfl)
  · exact no_cuts (by kernel_rfl)
  · rintro ⟨s0, f1⟩
    kernel_rfl
/- 120 loop.example/g01005/impl.staleItems -/
def impl_staleItems_l0 (k : Nat) : Nat → Int → Int → (List (List UInt8)) → (List (List UInt8)) → (List (List UInt8 × List (List UInt8) × Int × Int)) → ((List (List UInt8)) → Option (List (List UInt8))) → Option (List (List UInt8))
  | 0, _, _, _, _, _, _ => none
  | n + 1, x9, x10, q_2, q_3, v_1, e_0 => (if (decide (x10 < x9)) = true then (if 0 ≤ x10 ∧ x10.toNat < List.length q_2 then (q_2[x10.toNat]?).bind fun y_4 => (impl_itemNamed_r k v_1 y_4).bind fun r_5 => (if (decide (r_5.2.2.1 = 0)) = true then (if (q_3.length + [y_4].length) * 16 ≤ LIM then impl_staleItems_l0 k n x9 (w_i64 (x10 + 1)) q_2 (q_3 ++ [y_4]) v_1 e_0 else none) else (slices_ContainsFunc_string__impl_staleItems_1 k r_5.2.1 (q_3, (v_1, r_5))).bind fun r_6 => (if r_6 = true then (if (q_3.length + [y_4].length) * 16 ≤ LIM then impl_staleItems_l0 k n x9 (w_i64 (x10 + 1)) q_2 (q_3 ++ [y_4]) v_1 e_0 else none) else impl_staleItems_l0 k n x9 (w_i64 (x10 + 1)) q_2 q_3 v_1 e_0)) else none) else e_0 q_3)
def impl_staleItems (k : Nat) (list0 : List (List UInt8 × List (List UInt8) × Int × Int)) : Option (List (List UInt8)) := (impl_makeOrder k list0).bind fun r_1 => impl_staleItems_l0 k k (List.length r_1 : Int) 0 r_1 [] list0 (fun q_7 => some q_7)
def impl_staleItems_l0_h : Head := ⟨[(1, (.bp 1 [] 0)), (3, (.bp 3 [] 0)), (8, (.ref 64000000 [])), (9, (.val (.int .i64))), (10, (.val (.int .i64)))], [(64000000, 9, .str, false), (64000001, 9, .str, false)], [(1, 81, (.val (.sl 156 (.st (.pr .str (.pr (.sl 9 .str) (.pr (.int .i64) (.int .i64)))))))), (3, 44, (.ref 64000001 []))]⟩
def impl_staleItems_l0_x0 : Head := ⟨[(3, (.bp 3 [] 0))], [(64000000, 9, .str, false)], [(3, 44, (.ref 64000000 []))]⟩
def impl_staleItems_l0_F (k n : Nat) (x : impl_staleItems_l0_h.T) (kx : Nat → St → Option (List (List UInt8))) : Option (List (List UInt8)) := impl_staleItems_l0 k n x.1.2.2.2.1 x.1.2.2.2.2.1 x.2.1.1 x.2.1.2.1 x.2.2.1 (fun (q_7 : List (List UInt8)) => kx 0 (impl_staleItems_l0_x0.fill (((), ()), (q_7, ()), ((), ()))))
def impl_staleItems_O (k : Nat) : Oracles (List (List UInt8)) := ⟨fun n => bif Nat.beq n 3 then some (fun σ kx => impl_staleItems_l0_h.get σ fun x => impl_staleItems_l0_F k k x kx) else none, fun _ => none⟩
def fe_impl_staleItems (k : Nat) : FE := ⟨(.sl 156 (.st (.pr .str (.pr (.sl 9 .str) (.pr (.int .i64) (.int .i64)))))), 1, (.sl 9 .str), fun x => impl_staleItems k x⟩
theorem impl_staleItems_l0_ok (k : Nat) : LoopOK (mkEnv ti [(188, fe_impl_makeOrder k), (189, fe_impl_itemNamed_r k), (186, fe_slices_ContainsFunc_string__impl_staleItems_1 k)] (lk []) pins0 pinB0) (impl_staleItems_O k) (rdC (mkEnv ti [(188, fe_impl_makeOrder k), (189, fe_impl_itemNamed_r k), (186, fe_slices_ContainsFunc_string__impl_staleItems_1 k)] (lk []) pins0 pinB0) [.tmp 2] (.sl 9 .str)) ((loopsOf (codeOf Try.f120)).getD 0 .skip) (fun σ kx => impl_staleItems_l0_h.get σ fun x => impl_staleItems_l0_F k k x kx) := by
  refine ⟨impl_staleItems_l0_h, [(0, impl_staleItems_l0_x0)], fun n x kx => impl_staleItems_l0_F k n x kx, k, by kernel_rfl, by kernel_rfl, fun x kx => by kernel_rfl, ?_, fun σ kx => rfl⟩
  rintro n ⟨⟨⟨⟩, ⟨⟩, ⟨⟩, x9, x10, ⟨⟩⟩, ⟨q_2, q_3, ⟨⟩⟩, ⟨v_1, ⟨⟩, ⟨⟩⟩⟩ kx
  kernel_rfl
theorem ok_impl_staleItems (k : Nat) : FnOK Try.prog 120 (fe_impl_staleItems k) := by
  refine closed_ok (tab := [(188, fe_impl_makeOrder k), (189, fe_impl_itemNamed_r k), (186, fe_slices_ContainsFunc_string__impl_staleItems_1 k)]) (l := []) ti_ok ti_ht mix (List.forall_mem_cons.2 ⟨ok_impl_makeOrder k, (List.forall_mem_cons.2 ⟨ok_impl_itemNamed_r k, (List.forall_mem_cons.2 ⟨ok_slices_ContainsFunc_string__impl_staleItems_1 k, (List.forall_mem_nil _)⟩)⟩)⟩) (List.forall_mem_nil _) ⟨⟨Try.f120, (codeOf Try.f120), [.tmp 2], (impl_staleItems_O k), by kernel_rfl, by kernel_rfl, by kernel_rfl, by kernel_rfl, rfl, by decide, ⟨by kernel_rfl, ?_, ?_⟩, ?_⟩⟩
  · refine loops_of (n := 1) (by kernel_rfl) fun i hi => ?_
    match i, hi with
    | 0, _ => exact loop_of (by kernel_rfl) (impl_staleItems_l0_ok k)
    | n + 1, hi => omega
  · exact no_cuts (by kernel_rfl)
  · rintro list0
    kernel_rfl
/- 48 loop.example/g01005/impl.StaleItems -/
def impl_StaleItems (k : Nat) (list0 : List (List UInt8 × List (List UInt8) × Int × Int)) : Option (List (List UInt8) × Int) := (impl_ValidItems k list0).bind fun r_1 => (if (!r_1) = true then some ([], 1) else (impl_staleItems k list0).bind fun r_2 => (slices_Sort_string_s r_2).bind fun y_3 => some (y_3.2.1.1, 0))
def fe_impl_StaleItems (k : Nat) : FE := ⟨(.sl 156 (.st (.pr .str (.pr (.sl 9 .str) (.pr (.int .i64) (.int .i64)))))), 2, (.pr (.sl 9 .str) (.int .i64)), fun x => impl_StaleItems k x⟩
theorem ok_impl_StaleItems (k : Nat) : FnOK Try.prog 48 (fe_impl_StaleItems k) := by
  refine closed_ok (tab := [(119, fe_impl_ValidItems k), (120, fe_impl_staleItems k)]) (l := [(11, 121, oc_slices_Sort_string_s)]) ti_ok ti_ht mix (List.forall_mem_cons.2 ⟨ok_impl_ValidItems k, (List.forall_mem_cons.2 ⟨ok_impl_staleItems k, (List.forall_mem_nil _)⟩)⟩) (List.forall_mem_cons.2 ⟨ok_slices_Sort_string_s, (List.forall_mem_nil _)⟩) ⟨⟨Try.f48, (codeOf Try.f48), [.tmp 2, .tmp 3], (LOn (List (List UInt8) × Int)), by kernel_rfl, by kernel_rfl, by kernel_rfl, by kernel_rfl, rfl, by decide, ⟨by kernel_rfl, ?_, ?_⟩, ?_⟩⟩
  · exact no_loops (by kernel_rfl)
  · exact no_cuts (by kernel_rfl)
  · rintro list0
    kernel_rfl
end
end Go.Proofs.Ytackggcodaolaaa.Ev
