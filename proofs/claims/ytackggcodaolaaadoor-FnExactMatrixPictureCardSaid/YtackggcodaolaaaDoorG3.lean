/- Functions of the program, as plain ones. No conditions. -/
import Derived.Test.YtackggcodaolaaaDoorG2
import Derived.KernelRfl
set_option linter.unusedVariables false
set_option maxRecDepth 100000
namespace Go.Proofs.YtackggcodaolaaaDoor.Ev
open Go.RowKit
noncomputable section
/- 11 loop.example/g01005/laws.eqGraph -/
def laws_eqGraph (k : Nat) (a0 : Int × List (Int × Int × Int)) (b1 : Int × List (Int × Int × Int)) : Option Bool := (if (!(decide (a0.1 = b1.1))) = true then some false else (laws_eqEdgeS k a0.2 b1.2).bind fun r_1 => (if (!r_1) = true then some false else some true))
def fe_laws_eqGraph (k : Nat) : FE := ⟨(.pr (.st (.pr (.int .i64) (.sl 99 (.st (.pr (.int .i64) (.pr (.int .i64) (.int .i64))))))) (.st (.pr (.int .i64) (.sl 99 (.st (.pr (.int .i64) (.pr (.int .i64) (.int .i64)))))))), 1, .bool, fun x => laws_eqGraph k x.1 x.2⟩
theorem ok_laws_eqGraph (k : Nat) : FnOK Tryd.prog 11 (fe_laws_eqGraph k) := by
  refine closed_ok (tab := [(36, fe_laws_eqEdgeS k)]) (l := []) ti_ok ti_ht mix (List.forall_mem_cons.2 ⟨ok_laws_eqEdgeS k, (List.forall_mem_nil _)⟩) (List.forall_mem_nil _) ⟨⟨Tryd.f11, (codeOf Tryd.f11), [.tmp 4], (LOn Bool), by kernel_rfl, by kernel_rfl, by kernel_rfl, by kernel_rfl, rfl, by decide, ⟨by kernel_rfl, ?_, ?_⟩, ?_⟩⟩
  · exact no_loops (by kernel_rfl)
  · exact no_cuts (by kernel_rfl)
  · rintro ⟨a0, b1⟩
    kernel_rfl
/- 37 loop.example/g01005/laws.markEdgeS (open) -/
def laws_markEdgeS_o_l0 (k : Nat) : Nat → Int → Int → (List (Int × Int × Int)) → (Int → (List (Int × Int × Int)) → Option (((Int × Unit) × ((List (Int × Int × Int)) × Unit) × Unit))) → Option (((Int × Unit) × ((List (Int × Int × Int)) × Unit) × Unit))
  | 0, _, _, _, _ => none
  | n + 1, k1, i5, q_2, e_0 => (if (decide (i5 < (List.length q_2 : Int))) = true then (if 0 ≤ i5 ∧ i5.toNat < List.length q_2 then (q_2[i5.toNat]?).bind fun y_3 => (q_2[i5.toNat]?).bind fun y_4 => (if 0 ≤ i5 ∧ i5.toNat < List.length (q_2.set i5.toNat (k1, y_3.2)) then ((q_2.set i5.toNat (k1, y_3.2))[i5.toNat]?).bind fun y_5 => ((q_2.set i5.toNat (k1, y_3.2))[i5.toNat]?).bind fun y_6 => (if 0 ≤ i5 ∧ i5.toNat < List.length ((q_2.set i5.toNat (k1, y_3.2)).set i5.toNat (y_5.1, ((w_i64 (k1 + 1)), y_5.2.2))) then (((q_2.set i5.toNat (k1, y_3.2)).set i5.toNat (y_5.1, ((w_i64 (k1 + 1)), y_5.2.2)))[i5.toNat]?).bind fun y_7 => (((q_2.set i5.toNat (k1, y_3.2)).set i5.toNat (y_5.1, ((w_i64 (k1 + 1)), y_5.2.2)))[i5.toNat]?).bind fun y_8 => laws_markEdgeS_o_l0 k n (w_i64 ((w_i64 ((w_i64 (k1 + 1)) + 1)) + 1)) (w_i64 (i5 + 1)) (((q_2.set i5.toNat (k1, y_3.2)).set i5.toNat (y_5.1, ((w_i64 (k1 + 1)), y_5.2.2))).set i5.toNat (y_7.1, (y_7.2.1, (w_i64 ((w_i64 (k1 + 1)) + 1))))) e_0 else none) else none) else none) else e_0 k1 q_2)
def laws_markEdgeS_o (k : Nat) (k1 : Int) (q_1 : List (Int × Int × Int)) : Option (((Int × Unit) × ((List (Int × Int × Int)) × Unit) × Unit)) := laws_markEdgeS_o_l0 k k k1 0 q_1 (fun k_9 q_10 => some ((k_9, ()), (q_10, ()), ()))
def laws_markEdgeS_o_l0_h : Head := ⟨[(0, (.ref 1000000000 [])), (1, (.val (.int .i64))), (5, (.val (.int .i64)))], [(1000000000, 99, (.st (.pr (.int .i64) (.pr (.int .i64) (.int .i64)))), false)], []⟩
def laws_markEdgeS_o_l0_x0 : Head := ⟨[(1, (.val (.int .i64)))], [(1000000000, 99, (.st (.pr (.int .i64) (.pr (.int .i64) (.int .i64)))), false)], []⟩
def laws_markEdgeS_o_l0_F (k n : Nat) (x : laws_markEdgeS_o_l0_h.T) (kx : Nat → St → Option (((Int × Unit) × ((List (Int × Int × Int)) × Unit) × Unit))) : Option (((Int × Unit) × ((List (Int × Int × Int)) × Unit) × Unit)) := laws_markEdgeS_o_l0 k n x.1.2.1 x.1.2.2.1 x.2.1.1 (fun (k1 : Int) (q_9 : List (Int × Int × Int)) => kx 0 (laws_markEdgeS_o_l0_x0.fill ((k1, ()), (q_9, ()), ())))
def laws_markEdgeS_o_O (k : Nat) : Oracles (((Int × Unit) × ((List (Int × Int × Int)) × Unit) × Unit)) := ⟨fun n => bif Nat.beq n 2 then some (fun σ kx => laws_markEdgeS_o_l0_h.get σ fun x => laws_markEdgeS_o_l0_F k k x kx) else none, fun _ => none⟩
def laws_markEdgeS_o_hi : Head := ⟨[(0, (.ref 1000000000 [])), (1, (.val (.int .i64)))], [(1000000000, 99, (.st (.pr (.int .i64) (.pr (.int .i64) (.int .i64)))), false)], []⟩
def laws_markEdgeS_o_ho : Head := ⟨[(0, (.val (.int .i64)))], [(1000000000, 99, (.st (.pr (.int .i64) (.pr (.int .i64) (.int .i64)))), false)], []⟩
def oc_laws_markEdgeS_o (k : Nat) : OC := ⟨laws_markEdgeS_o_hi, laws_markEdgeS_o_ho, fun x => laws_markEdgeS_o k x.1.2.1 x.2.1.1⟩
theorem laws_markEdgeS_o_l0_ok (k : Nat) (pins : Nat → Value) (pinB : Nat → Nat) : LoopOK (mkEnv ti [] (lk []) pins pinB) (laws_markEdgeS_o_O k) (rdO (mkEnv ti [] (lk []) pins pinB) [.tmp 4] laws_markEdgeS_o_ho) ((loopsOf (codeOf Tryd.f37)).getD 0 .skip) (fun σ kx => laws_markEdgeS_o_l0_h.get σ fun x => laws_markEdgeS_o_l0_F k k x kx) := by
  refine ⟨laws_markEdgeS_o_l0_h, [(0, laws_markEdgeS_o_l0_x0)], fun n x kx => laws_markEdgeS_o_l0_F k n x kx, k, by kernel_rfl, by kernel_rfl, fun x kx => by kernel_rfl, ?_, fun σ kx => rfl⟩
  rintro n ⟨⟨⟨⟩, k1, i5, ⟨⟩⟩, ⟨q_2, ⟨⟩⟩, ⟨⟩⟩ kx
  kernel_rfl
theorem ok_laws_markEdgeS_o (k : Nat) : OpenOK Tryd.prog ti 37 (oc_laws_markEdgeS_o k) := by
  refine open_ok (tab := []) (l := []) ti_ok ti_ht mix (List.forall_mem_nil _) (List.forall_mem_nil _) ⟨by kernel_rfl, by kernel_rfl, Tryd.f37, (codeOf Tryd.f37), [.tmp 4], (laws_markEdgeS_o_O k), by kernel_rfl, by kernel_rfl, by kernel_rfl, by kernel_rfl, Nat.le_of_ble_eq_true (by kernel_rfl), fun pins pinB => ⟨⟨by kernel_rfl, ?_, ?_⟩, ?_⟩⟩
  · refine loops_of (n := 1) (by kernel_rfl) fun i hi => ?_
    match i, hi with
    | 0, _ => exact loop_of (by kernel_rfl) (laws_markEdgeS_o_l0_ok k pins pinB)
    | n + 1, hi => omega
  · exact no_cuts (by kernel_rfl)
  · rintro ⟨⟨⟨⟩, k1, ⟨⟩⟩, ⟨q_1, ⟨⟩⟩, ⟨⟩⟩
    kernel_rfl
/- 12 loop.example/g01005/laws.markGraph (open) -/
def laws_markGraph_o (k : Nat) (a0a : Int) (k1 : Int) (q_1 : List (Int × Int × Int)) : Option (((Int × Unit) × ((List (Int × Int × Int)) × Unit) × Unit)) := (laws_markEdgeS_o k k1 q_1).bind fun y_2 => some ((y_2.1.1, ()), (y_2.2.1.1, ()), ())
def laws_markGraph_o_hi : Head := ⟨[(0, (.st (.pr (.val (.int .i64)) (.ref 1000000000 [])))), (1, (.val (.int .i64)))], [(1000000000, 99, (.st (.pr (.int .i64) (.pr (.int .i64) (.int .i64)))), false)], []⟩
def laws_markGraph_o_ho : Head := ⟨[(0, (.val (.int .i64)))], [(1000000000, 99, (.st (.pr (.int .i64) (.pr (.int .i64) (.int .i64)))), false)], []⟩
def oc_laws_markGraph_o (k : Nat) : OC := ⟨laws_markGraph_o_hi, laws_markGraph_o_ho, fun x => laws_markGraph_o k x.1.1.1 x.1.2.1 x.2.1.1⟩
theorem ok_laws_markGraph_o (k : Nat) : OpenOK Tryd.prog ti 12 (oc_laws_markGraph_o k) := by
  refine open_ok (tab := []) (l := [(8, 37, oc_laws_markEdgeS_o k)]) ti_ok ti_ht mix (List.forall_mem_nil _) (List.forall_mem_cons.2 ⟨ok_laws_markEdgeS_o k, (List.forall_mem_nil _)⟩) ⟨by kernel_rfl, by kernel_rfl, Tryd.f12, (codeOf Tryd.f12), [.tmp 4], (LOn (((Int × Unit) × ((List (Int × Int × Int)) × Unit) × Unit))), by kernel_rfl, by kernel_rfl, by kernel_rfl, by kernel_rfl, Nat.le_of_ble_eq_true (by kernel_rfl), fun pins pinB => ⟨⟨by kernel_rfl, ?_, ?_⟩, ?_⟩⟩
  · exact no_loops (by kernel_rfl)
  · exact no_cuts (by kernel_rfl)
  · rintro ⟨⟨⟨a0a, ⟨⟩⟩, k1, ⟨⟩⟩, ⟨q_1, ⟨⟩⟩, ⟨⟩⟩
    kernel_rfl
/- 38 loop.example/g01005/laws.markText -/
def laws_markText_l0 (k : Nat) : Nat → Int → (List UInt8) → ((List UInt8) → Option (List UInt8)) → Option (List UInt8)
  | 0, _, _, _ => none
  | n + 1, k0, out3, e_0 => (if (decide (0 < k0)) = true then (if (to_S [(w_u8 ((w_i64 (48 + (Int.tmod k0 10)))))]).length + out3.length ≤ 9223372036854775807 then laws_markText_l0 k n (w_i64 (Int.tdiv k0 10)) ((to_S [(w_u8 ((w_i64 (48 + (Int.tmod k0 10)))))]) ++ out3) e_0 else none) else e_0 out3)
def laws_markText (k : Nat) (k0 : Int) : Option (List UInt8) := (if (decide (k0 ≤ 0)) = true then some [109, 48] else laws_markText_l0 k k k0 [] (fun out_1 => (if [109].length + out_1.length ≤ 9223372036854775807 then some ([109] ++ out_1) else none)))
def laws_markText_l0_h : Head := ⟨[(0, (.val (.int .i64))), (3, (.val .str))], [], []⟩
def laws_markText_l0_x0 : Head := ⟨[(3, (.val .str))], [], []⟩
def laws_markText_l0_F (k n : Nat) (x : laws_markText_l0_h.T) (kx : Nat → St → Option (List UInt8)) : Option (List UInt8) := laws_markText_l0 k n x.1.1 x.1.2.1 (fun (out3 : List UInt8) => kx 0 (laws_markText_l0_x0.fill ((out3, ()), (), ())))
def laws_markText_O (k : Nat) : Oracles (List UInt8) := ⟨fun n => bif Nat.beq n 4 then some (fun σ kx => laws_markText_l0_h.get σ fun x => laws_markText_l0_F k k x kx) else none, fun _ => none⟩
def fe_laws_markText (k : Nat) : FE := ⟨(.int .i64), 1, .str, fun x => laws_markText k x⟩
theorem laws_markText_l0_ok (k : Nat) : LoopOK (mkEnv ti [] (lk []) pins0 pinB0) (laws_markText_O k) (rdC (mkEnv ti [] (lk []) pins0 pinB0) [.tmp 2] .str) ((loopsOf (codeOf Tryd.f38)).getD 0 .skip) (fun σ kx => laws_markText_l0_h.get σ fun x => laws_markText_l0_F k k x kx) := by
  refine ⟨laws_markText_l0_h, [(0, laws_markText_l0_x0)], fun n x kx => laws_markText_l0_F k n x kx, k, by kernel_rfl, by kernel_rfl, fun x kx => by kernel_rfl, ?_, fun σ kx => rfl⟩
  rintro n ⟨⟨k0, out3, ⟨⟩⟩, ⟨⟩, ⟨⟩⟩ kx
  kernel_rfl
theorem ok_laws_markText (k : Nat) : FnOK Tryd.prog 38 (fe_laws_markText k) := by
  refine closed_ok (tab := []) (l := []) ti_ok ti_ht mix (List.forall_mem_nil _) (List.forall_mem_nil _) ⟨⟨Tryd.f38, (codeOf Tryd.f38), [.tmp 2], (laws_markText_O k), by kernel_rfl, by kernel_rfl, by kernel_rfl, by kernel_rfl, rfl, by decide, ⟨by kernel_rfl, ?_, ?_⟩, ?_⟩⟩
  · refine loops_of (n := 1) (by kernel_rfl) fun i hi => ?_
    match i, hi with
    | 0, _ => exact loop_of (by kernel_rfl) (laws_markText_l0_ok k)
    | n + 1, hi => omega
  · exact no_cuts (by kernel_rfl)
  · rintro k0
    kernel_rfl
/- 13 loop.example/g01005/laws.markStringS (open) -/
def laws_markStringS_o_l0 (k : Nat) : Nat → Int → Int → (List (List UInt8)) → (Int → (List (List UInt8)) → Option (((Int × Unit) × ((List (List UInt8)) × Unit) × Unit))) → Option (((Int × Unit) × ((List (List UInt8)) × Unit) × Unit))
  | 0, _, _, _, _ => none
  | n + 1, k1, i5, q_2, e_0 => (if (decide (i5 < (List.length q_2 : Int))) = true then (laws_markText k k1).bind fun r_3 => (if 0 ≤ i5 ∧ i5.toNat < List.length q_2 then (q_2[i5.toNat]?).bind fun y_4 => (q_2[i5.toNat]?).bind fun y_5 => laws_markStringS_o_l0 k n (w_i64 (k1 + 1)) (w_i64 (i5 + 1)) (q_2.set i5.toNat r_3) e_0 else none) else e_0 k1 q_2)
def laws_markStringS_o (k : Nat) (k1 : Int) (q_1 : List (List UInt8)) : Option (((Int × Unit) × ((List (List UInt8)) × Unit) × Unit)) := laws_markStringS_o_l0 k k k1 0 q_1 (fun k_6 q_7 => some ((k_6, ()), (q_7, ()), ()))
def laws_markStringS_o_l0_h : Head := ⟨[(0, (.ref 1000000000 [])), (1, (.val (.int .i64))), (5, (.val (.int .i64)))], [(1000000000, 9, .str, false)], []⟩
def laws_markStringS_o_l0_x0 : Head := ⟨[(1, (.val (.int .i64)))], [(1000000000, 9, .str, false)], []⟩
def laws_markStringS_o_l0_F (k n : Nat) (x : laws_markStringS_o_l0_h.T) (kx : Nat → St → Option (((Int × Unit) × ((List (List UInt8)) × Unit) × Unit))) : Option (((Int × Unit) × ((List (List UInt8)) × Unit) × Unit)) := laws_markStringS_o_l0 k n x.1.2.1 x.1.2.2.1 x.2.1.1 (fun (k1 : Int) (q_6 : List (List UInt8)) => kx 0 (laws_markStringS_o_l0_x0.fill ((k1, ()), (q_6, ()), ())))
def laws_markStringS_o_O (k : Nat) : Oracles (((Int × Unit) × ((List (List UInt8)) × Unit) × Unit)) := ⟨fun n => bif Nat.beq n 2 then some (fun σ kx => laws_markStringS_o_l0_h.get σ fun x => laws_markStringS_o_l0_F k k x kx) else none, fun _ => none⟩
def laws_markStringS_o_hi : Head := ⟨[(0, (.ref 1000000000 [])), (1, (.val (.int .i64)))], [(1000000000, 9, .str, false)], []⟩
def laws_markStringS_o_ho : Head := ⟨[(0, (.val (.int .i64)))], [(1000000000, 9, .str, false)], []⟩
def oc_laws_markStringS_o (k : Nat) : OC := ⟨laws_markStringS_o_hi, laws_markStringS_o_ho, fun x => laws_markStringS_o k x.1.2.1 x.2.1.1⟩
theorem laws_markStringS_o_l0_ok (k : Nat) (pins : Nat → Value) (pinB : Nat → Nat) : LoopOK (mkEnv ti [(38, fe_laws_markText k)] (lk []) pins pinB) (laws_markStringS_o_O k) (rdO (mkEnv ti [(38, fe_laws_markText k)] (lk []) pins pinB) [.tmp 4] laws_markStringS_o_ho) ((loopsOf (codeOf Tryd.f13)).getD 0 .skip) (fun σ kx => laws_markStringS_o_l0_h.get σ fun x => laws_markStringS_o_l0_F k k x kx) := by
  refine ⟨laws_markStringS_o_l0_h, [(0, laws_markStringS_o_l0_x0)], fun n x kx => laws_markStringS_o_l0_F k n x kx, k, by kernel_rfl, by kernel_rfl, fun x kx => by kernel_rfl, ?_, fun σ kx => rfl⟩
  rintro n ⟨⟨⟨⟩, k1, i5, ⟨⟩⟩, ⟨q_2, ⟨⟩⟩, ⟨⟩⟩ kx
  kernel_rfl
theorem ok_laws_markStringS_o (k : Nat) : OpenOK Tryd.prog ti 13 (oc_laws_markStringS_o k) := by
  refine open_ok (tab := [(38, fe_laws_markText k)]) (l := []) ti_ok ti_ht mix (List.forall_mem_cons.2 ⟨ok_laws_markText k, (List.forall_mem_nil _)⟩) (List.forall_mem_nil _) ⟨by kernel_rfl, by kernel_rfl, Tryd.f13, (codeOf Tryd.f13), [.tmp 4], (laws_markStringS_o_O k), by kernel_rfl, by kernel_rfl, by kernel_rfl, by kernel_rfl, Nat.le_of_ble_eq_true (by kernel_rfl), fun pins pinB => ⟨⟨by kernel_rfl, ?_, ?_⟩, ?_⟩⟩
  · refine loops_of (n := 1) (by kernel_rfl) fun i hi => ?_
    match i, hi with
    | 0, _ => exact loop_of (by kernel_rfl) (laws_markStringS_o_l0_ok k pins pinB)
    | n + 1, hi => omega
  · exact no_cuts (by kernel_rfl)
  · rintro ⟨⟨⟨⟩, k1, ⟨⟩⟩, ⟨q_1, ⟨⟩⟩, ⟨⟩⟩
    kernel_rfl
/- 14 loop.example/g01005/laws.heldStringS -/
def laws_heldStringS_l0 (k : Nat) : Nat → (List (List UInt8)) → Int → Int → (Int → Option Int) → Option Int
  | 0, _, _, _, _ => none
  | n + 1, a0, k1, i5, e_0 => (if (decide (i5 < (List.length a0 : Int))) = true then (if 0 ≤ i5 then (a0[i5.toNat]?).bind fun y_1 => (laws_markText k k1).bind fun r_2 => (if (!(decide (y_1 = r_2))) = true then some (-1) else laws_heldStringS_l0 k n a0 (w_i64 (k1 + 1)) (w_i64 (i5 + 1)) e_0) else none) else e_0 k1)
def laws_heldStringS (k : Nat) (a0 : List (List UInt8)) (k1 : Int) : Option Int := laws_heldStringS_l0 k k a0 k1 0 (fun k_3 => some k_3)
def laws_heldStringS_l0_h : Head := ⟨[(0, (.val (.sl 9 .str))), (1, (.val (.int .i64))), (5, (.val (.int .i64)))], [], []⟩
def laws_heldStringS_l0_x0 : Head := ⟨[(1, (.val (.int .i64)))], [], []⟩
def laws_heldStringS_l0_F (k n : Nat) (x : laws_heldStringS_l0_h.T) (kx : Nat → St → Option Int) : Option Int := laws_heldStringS_l0 k n x.1.1 x.1.2.1 x.1.2.2.1 (fun (k1 : Int) => kx 0 (laws_heldStringS_l0_x0.fill ((k1, ()), (), ())))
def laws_heldStringS_O (k : Nat) : Oracles Int := ⟨fun n => bif Nat.beq n 2 then some (fun σ kx => laws_heldStringS_l0_h.get σ fun x => laws_heldStringS_l0_F k k x kx) else none, fun _ => none⟩
def fe_laws_heldStringS (k : Nat) : FE := ⟨(.pr (.sl 9 .str) (.int .i64)), 1, (.int .i64), fun x => laws_heldStringS k x.1 x.2⟩
theorem laws_heldStringS_l0_ok (k : Nat) : LoopOK (mkEnv ti [(38, fe_laws_markText k)] (lk []) pins0 pinB0) (laws_heldStringS_O k) (rdC (mkEnv ti [(38, fe_laws_markText k)] (lk []) pins0 pinB0) [.tmp 4] (.int .i64)) ((loopsOf (codeOf Tryd.f14)).getD 0 .skip) (fun σ kx => laws_heldStringS_l0_h.get σ fun x => laws_heldStringS_l0_F k k x kx) := by
  refine ⟨laws_heldStringS_l0_h, [(0, laws_heldStringS_l0_x0)], fun n x kx => laws_heldStringS_l0_F k n x kx, k, by kernel_rfl, by kernel_rfl, fun x kx => by kernel_rfl, ?_, fun σ kx => rfl⟩
  rintro n ⟨⟨a0, k1, i5, ⟨⟩⟩, ⟨⟩, ⟨⟩⟩ kx
  kernel_rfl
theorem ok_laws_heldStringS (k : Nat) : FnOK Tryd.prog 14 (fe_laws_heldStringS k) := by
  refine closed_ok (tab := [(38, fe_laws_markText k)]) (l := []) ti_ok ti_ht mix (List.forall_mem_cons.2 ⟨ok_laws_markText k, (List.forall_mem_nil _)⟩) (List.forall_mem_nil _) ⟨⟨Tryd.f14, (codeOf Tryd.f14), [.tmp 4], (laws_heldStringS_O k), by kernel_rfl, by kernel_rfl, by kernel_rfl, by kernel_rfl, rfl, by decide, ⟨by kernel_rfl, ?_, ?_⟩, ?_⟩⟩
  · refine loops_of (n := 1) (by kernel_rfl) fun i hi => ?_
    match i, hi with
    | 0, _ => exact loop_of (by kernel_rfl) (laws_heldStringS_l0_ok k)
    | n + 1, hi => omega
  · exact no_cuts (by kernel_rfl)
  · rintro ⟨a0, k1⟩
    kernel_rfl
/- 3 loop.example/g01005/laws.FnExactGraphPicture -/
def laws_FnExactGraphPicture (k : Nat) (aG0 : Int × List (Int × Int × Int)) : Option Bool := (laws_szGraph aG0 1048576).bind fun r_1 => (if (decide (r_1 < 0)) = true then some true else (laws_toGraph k aG0).bind fun r_2 => (spec_GraphPicture k (r_2.1, r_2.2)).bind fun r_3 => (laws_toGraph k aG0).bind fun r_4 => (impl_GraphPicture k (r_4.1, r_4.2)).bind fun r_5 => (laws_eqStringS k r_5.1 r_3.1).bind fun r_6 => (if (!r_6) = true then some false else (if (!(decide (r_5.2 = r_3.2))) = true then some false else (laws_toGraph k aG0).bind fun r_7 => (laws_eqGraph k (r_4.1, r_4.2) (r_7.1, r_7.2)).bind fun r_8 => (if (!r_8) = true then some false else (laws_markGraph_o k r_4.1 1 r_4.2).bind fun y_9 => (if (decide (y_9.1.1 < 0)) = true then some false else (laws_eqStringS k r_5.1 r_3.1).bind fun r_10 => (if (!r_10) = true then some false else (if (!(decide (r_5.2 = r_3.2))) = true then some false else (laws_markStringS_o k 1 r_5.1).bind fun y_11 => (laws_heldStringS k y_11.2.1.1 1).bind fun r_12 => (if (decide (r_12 < 0)) = true then some false else (if (!(decide (r_12 = y_11.1.1))) = true then some false else (laws_toGraph k aG0).bind fun r_13 => (impl_GraphPicture k (r_13.1, r_13.2)).bind fun r_14 => (laws_eqStringS k r_14.1 r_3.1).bind fun r_15 => (if (!r_15) = true then some false else (if (!(decide (r_14.2 = r_3.2))) = true then some false else (laws_heldStringS k y_11.2.1.1 1).bind fun r_16 => (if (decide (r_16 < 0)) = true then some false else (if (!(decide (r_16 = y_11.1.1))) = true then some false else some true)))))))))))))
def fe_laws_FnExactGraphPicture (k : Nat) : FE := ⟨(.st (.pr (.int .i64) (.sl 102 (.st (.pr (.int .i64) (.pr (.int .i64) (.int .i64))))))), 1, .bool, fun x => laws_FnExactGraphPicture k x⟩
theorem ok_laws_FnExactGraphPicture (k : Nat) : FnOK Tryd.prog 3 (fe_laws_FnExactGraphPicture k) := by
  refine closed_ok (tab := [(6, fe_laws_szGraph), (8, fe_laws_toGraph k), (7, fe_spec_GraphPicture k), (9, fe_impl_GraphPicture k), (10, fe_laws_eqStringS k), (11, fe_laws_eqGraph k), (14, fe_laws_heldStringS k)]) (l := [(48, 12, oc_laws_markGraph_o k), (64, 13, oc_laws_markStringS_o k)]) ti_ok ti_ht mix (List.forall_mem_cons.2 ⟨ok_laws_szGraph, (List.forall_mem_cons.2 ⟨ok_laws_toGraph k, (List.forall_mem_cons.2 ⟨ok_spec_GraphPicture k, (List.forall_mem_cons.2 ⟨ok_impl_GraphPicture k, (List.forall_mem_cons.2 ⟨ok_laws_eqStringS k, (List.forall_mem_cons.2 ⟨ok_laws_eqGraph k, (List.forall_mem_cons.2 ⟨ok_laws_heldStringS k, (List.forall_mem_nil _)⟩)⟩)⟩)⟩)⟩)⟩)⟩) (List.forall_mem_cons.2 ⟨ok_laws_markGraph_o k, (List.forall_mem_cons.2 ⟨ok_laws_markStringS_o k, (List.forall_mem_nil _)⟩)⟩) ⟨⟨Tryd.f3, (codeOf Tryd.f3), [.tmp 2], (LOn Bool), by kernel_rfl, by kernel_rfl, by kernel_rfl, by kernel_rfl, rfl, by decide, ⟨by kernel_rfl, ?_, ?_⟩, ?_⟩⟩
  · exact no_loops (by kernel_rfl)
  · exact no_cuts (by kernel_rfl)
  · rintro aG0
    kernel_rfl
/- 39 loop.example/g01005/laws.szInt64S -/
def laws_szInt64S (a0 : List Int) (left1 : Int) : Option Int := (if (decide ((w_i64 (left1 - (List.length a0 : Int))) < 0)) = true then some (-1) else some (w_i64 (left1 - (List.length a0 : Int))))
def fe_laws_szInt64S : FE := ⟨(.pr (.sl 2 (.int .i64)) (.int .i64)), 1, (.int .i64), fun x => laws_szInt64S x.1 x.2⟩
theorem ok_laws_szInt64S : FnOK Tryd.prog 39 (fe_laws_szInt64S) := by
  refine closed_ok (tab := []) (l := []) ti_ok ti_ht mix (List.forall_mem_nil _) (List.forall_mem_nil _) ⟨⟨Tryd.f39, (codeOf Tryd.f39), [.tmp 4], (LOn Int), by kernel_rfl, by kernel_rfl, by kernel_rfl, by kernel_rfl, rfl, by decide, ⟨by kernel_rfl, ?_, ?_⟩, ?_⟩⟩
  · exact no_loops (by kernel_rfl)
  · exact no_cuts (by kernel_rfl)
  · rintro ⟨a0, left1⟩
    kernel_rfl
/- 15 loop.example/g01005/laws.szMatrix -/
def laws_szMatrix (a0 : Int × Int × Int × List Int) (left1 : Int) : Option Int := (laws_szInt64S a0.2.2.2 left1).bind fun r_1 => (if (decide (r_1 < 0)) = true then some (-1) else some r_1)
def fe_laws_szMatrix : FE := ⟨(.pr (.st (.pr (.int .i64) (.pr (.int .i64) (.pr (.int .i64) (.sl 2 (.int .i64)))))) (.int .i64)), 1, (.int .i64), fun x => laws_szMatrix x.1 x.2⟩
theorem ok_laws_szMatrix : FnOK Tryd.prog 15 (fe_laws_szMatrix) := by
  refine closed_ok (tab := [(39, fe_laws_szInt64S)]) (l := []) ti_ok ti_ht mix (List.forall_mem_cons.2 ⟨ok_laws_szInt64S, (List.forall_mem_nil _)⟩) (List.forall_mem_nil _) ⟨⟨Tryd.f15, (codeOf Tryd.f15), [.tmp 4], (LOn Int), by kernel_rfl, by kernel_rfl, by kernel_rfl, by kernel_rfl, rfl, by decide, ⟨by kernel_rfl, ?_, ?_⟩, ?_⟩⟩
  · exact no_loops (by kernel_rfl)
  · exact no_cuts (by kernel_rfl)
  · rintro ⟨a0, left1⟩
    kernel_rfl
/- 42 loop.example/g01005/laws.toInt64S -/
def laws_toInt64S_l0 (k : Nat) : Nat → (List Int) → Int → (List Int) → ((List Int) → Option (List Int)) → Option (List Int)
  | 0, _, _, _, _ => none
  | n + 1, a0, i4, q_1, e_0 => (if (decide (i4 < (List.length a0 : Int))) = true then (if 0 ≤ i4 then (a0[i4.toNat]?).bind fun y_2 => (if 0 ≤ i4 ∧ i4.toNat < List.length q_1 then (q_1[i4.toNat]?).bind fun y_3 => (q_1[i4.toNat]?).bind fun y_4 => laws_toInt64S_l0 k n a0 (w_i64 (i4 + 1)) (q_1.set i4.toNat y_2) e_0 else none) else none) else e_0 q_1)
def laws_toInt64S (k : Nat) (a0 : List Int) : Option (List Int) := (if 0 ≤ (List.length a0 : Int) ∧ (List.length a0 : Int) ≤ (List.length a0 : Int) ∧ (List.length a0 : Int) * 8 ≤ LIM then laws_toInt64S_l0 k k a0 0 (List.replicate (List.length a0) 0) (fun q_5 => some q_5) else none)
def laws_toInt64S_l0_h : Head := ⟨[(0, (.val (.sl 2 (.int .i64)))), (3, (.ref 64000000 [])), (4, (.val (.int .i64)))], [(64000000, 2, (.int .i64), false)], []⟩
def laws_toInt64S_l0_x0 : Head := ⟨[(3, (.ref 64000000 []))], [(64000000, 2, (.int .i64), false)], []⟩
def laws_toInt64S_l0_F (k n : Nat) (x : laws_toInt64S_l0_h.T) (kx : Nat → St → Option (List Int)) : Option (List Int) := laws_toInt64S_l0 k n x.1.1 x.1.2.2.1 x.2.1.1 (fun (q_5 : List Int) => kx 0 (laws_toInt64S_l0_x0.fill (((), ()), (q_5, ()), ())))
def laws_toInt64S_O (k : Nat) : Oracles (List Int) := ⟨fun n => bif Nat.beq n 3 then some (fun σ kx => laws_toInt64S_l0_h.get σ fun x => laws_toInt64S_l0_F k k x kx) else none, fun _ => none⟩
def fe_laws_toInt64S (k : Nat) : FE := ⟨(.sl 2 (.int .i64)), 1, (.sl 2 (.int .i64)), fun x => laws_toInt64S k x⟩
theorem laws_toInt64S_l0_ok (k : Nat) : LoopOK (mkEnv ti [] (lk []) pins0 pinB0) (laws_toInt64S_O k) (rdC (mkEnv ti [] (lk []) pins0 pinB0) [.tmp 2] (.sl 2 (.int .i64))) ((loopsOf (codeOf Tryd.f42)).getD 0 .skip) (fun σ kx => laws_toInt64S_l0_h.get σ fun x => laws_toInt64S_l0_F k k x kx) := by
  refine ⟨laws_toInt64S_l0_h, [(0, laws_toInt64S_l0_x0)], fun n x kx => laws_toInt64S_l0_F k n x kx, k, by kernel_rfl, by kernel_rfl, fun x kx => by kernel_rfl, ?_, fun σ kx => rfl⟩
  rintro n ⟨⟨a0, ⟨⟩, i4, ⟨⟩⟩, ⟨q_1, ⟨⟩⟩, ⟨⟩⟩ kx
  kernel_rfl
theorem ok_laws_toInt64S (k : Nat) : FnOK Tryd.prog 42 (fe_laws_toInt64S k) := by
  refine closed_ok (tab := []) (l := []) ti_ok ti_ht mix (List.forall_mem_nil _) (List.forall_mem_nil _) ⟨⟨Tryd.f42, (codeOf Tryd.f42), [.tmp 2], (laws_toInt64S_O k), by kernel_rfl, by kernel_rfl, by kernel_rfl, by kernel_rfl, rfl, by decide, ⟨by kernel_rfl, ?_, ?_⟩, ?_⟩⟩
  · refine loops_of (n := 1) (by kernel_rfl) fun i hi => ?_
    match i, hi with
    | 0, _ => exact loop_of (by kernel_rfl) (laws_toInt64S_l0_ok k)
    | n + 1, hi => omega
  · exact no_cuts (by kernel_rfl)
  · rintro a0
    kernel_rfl
/- 17 loop.example/g01005/laws.toMatrix -/
def laws_toMatrix (k : Nat) (a0 : Int × Int × Int × List Int) : Option (Int × Int × Int × List Int) := (laws_toInt64S k a0.2.2.2).bind fun r_1 => some (a0.1, (a0.2.1, (a0.2.2.1, r_1)))
def fe_laws_toMatrix (k : Nat) : FE := ⟨(.st (.pr (.int .i64) (.pr (.int .i64) (.pr (.int .i64) (.sl 2 (.int .i64)))))), 1, (.st (.pr (.int .i64) (.pr (.int .i64) (.pr (.int .i64) (.sl 2 (.int .i64)))))), fun x => laws_toMatrix k x⟩
theorem ok_laws_toMatrix (k : Nat) : FnOK Tryd.prog 17 (fe_laws_toMatrix k) := by
  refine closed_ok (tab := [(42, fe_laws_toInt64S k)]) (l := []) ti_ok ti_ht mix (List.forall_mem_cons.2 ⟨ok_laws_toInt64S k, (List.forall_mem_nil _)⟩) (List.forall_mem_nil _) ⟨⟨Tryd.f17, (codeOf Tryd.f17), [.cell 2 43], (LOn (Int × Int × Int × List Int)), by kernel_rfl, by kernel_rfl, by kernel_rfl, by kernel_rfl, rfl, by decide, ⟨by kernel_rfl, ?_, ?_⟩, ?_⟩⟩
  · exact no_loops (by kernel_rfl)
  · exact no_cuts (by kernel_rfl)
  · rintro a0
    kernel_rfl
/- 88 loop.example/g01005/spec.l02Prime -/
def spec_l02Prime_l0 (k : Nat) : Nat → Int → Int → (Option Bool) → Option Bool
  | 0, _, _, _ => none
  | n + 1, p0, k3, e_0 => (if (decide ((w_i64 (k3 * k3)) ≤ p0)) = true then (if k3 = 0 then none else (if (decide ((Int.tmod p0 k3) = 0)) = true then some false else spec_l02Prime_l0 k n p0 (w_i64 (k3 + 1)) e_0)) else e_0)
def spec_l02Prime (k : Nat) (p0 : Int) : Option Bool := (spec_l00In p0 2 251).bind fun r_1 => (if (!r_1) = true then some false else spec_l02Prime_l0 k k p0 2 (some true))
def spec_l02Prime_l0_h : Head := ⟨[(0, (.val (.int .i64))), (3, (.val (.int .i64)))], [], []⟩
def spec_l02Prime_l0_x0 : Head := ⟨[], [], []⟩
def spec_l02Prime_l0_F (k n : Nat) (x : spec_l02Prime_l0_h.T) (kx : Nat → St → Option Bool) : Option Bool := spec_l02Prime_l0 k n x.1.1 x.1.2.1 (kx 0 (spec_l02Prime_l0_x0.fill ((), (), ())))
def spec_l02Prime_O (k : Nat) : Oracles Bool := ⟨fun n => bif Nat.beq n 4 then some (fun σ kx => spec_l02Prime_l0_h.get σ fun x => spec_l02Prime_l0_F k k x kx) else none, fun _ => none⟩
def fe_spec_l02Prime (k : Nat) : FE := ⟨(.int .i64), 1, .bool, fun x => spec_l02Prime k x⟩
theorem spec_l02Prime_l0_ok (k : Nat) : LoopOK (mkEnv ti [(59, fe_spec_l00In)] (lk []) pins0 pinB0) (spec_l02Prime_O k) (rdC (mkEnv ti [(59, fe_spec_l00In)] (lk []) pins0 pinB0) [.tmp 2] .bool) ((loopsOf (codeOf Tryd.f88)).getD 0 .skip) (fun σ kx => spec_l02Prime_l0_h.get σ fun x => spec_l02Prime_l0_F k k x kx) := by
  refine ⟨spec_l02Prime_l0_h, [(0, spec_l02Prime_l0_x0)], fun n x kx => spec_l02Prime_l0_F k n x kx, k, by kernel_rfl, by kernel_rfl, fun x kx => by kernel_rfl, ?_, fun σ kx => rfl⟩
  rintro n ⟨⟨p0, k3, ⟨⟩⟩, ⟨⟩, ⟨⟩⟩ kx
  kernel_rfl
theorem ok_spec_l02Prime (k : Nat) : FnOK Tryd.prog 88 (fe_spec_l02Prime k) := by
  refine closed_ok (tab := [(59, fe_spec_l00In)]) (l := []) ti_ok ti_ht mix (List.forall_mem_cons.2 ⟨ok_spec_l00In, (List.forall_mem_nil _)⟩) (List.forall_mem_nil _) ⟨⟨Tryd.f88, (codeOf Tryd.f88), [.tmp 2], (spec_l02Prime_O k), by kernel_rfl, by kernel_rfl, by kernel_rfl, by kernel_rfl, rfl, by decide, ⟨by kernel_rfl, ?_, ?_⟩, ?_⟩⟩
  · refine loops_of (n := 1) (by kernel_rfl) fun i hi => ?_
    match i, hi with
    | 0, _ => exact loop_of (by kernel_rfl) (spec_l02Prime_l0_ok k)
    | n + 1, hi => omega
  · exact no_cuts (by kernel_rfl)
  · rintro p0
    kernel_rfl
/- 66 loop.example/g01005/spec.ValidPrime -/
def spec_ValidPrime (k : Nat) (p0 : Int) : Option Bool := (spec_l02Prime k p0).bind fun r_1 => some r_1
def fe_spec_ValidPrime (k : Nat) : FE := ⟨(.int .i64), 1, .bool, fun x => spec_ValidPrime k x⟩
theorem ok_spec_ValidPrime (k : Nat) : FnOK Tryd.prog 66 (fe_spec_ValidPrime k) := by
  refine closed_ok (tab := [(88, fe_spec_l02Prime k)]) (l := []) ti_ok ti_ht mix (List.forall_mem_cons.2 ⟨ok_spec_l02Prime k, (List.forall_mem_nil _)⟩) (List.forall_mem_nil _) ⟨⟨Tryd.f66, (codeOf Tryd.f66), [.tmp 2], (LOn Bool), by kernel_rfl, by kernel_rfl, by kernel_rfl, by kernel_rfl, rfl, by decide, ⟨by kernel_rfl, ?_, ?_⟩, ?_⟩⟩
  · exact no_loops (by kernel_rfl)
  · exact no_cuts (by kernel_rfl)
  · rintro p0
    kernel_rfl
/- 67 loop.example/g01005/spec.l03Column -/
def spec_l03Column_l0 (k : Nat) : Nat → (List Int) → Int → Int → Int → ((List Int) → Int → Option Bool) → Option Bool
  | 0, _, _, _, _, _ => none
  | n + 1, v0, n1, p2, i7, e_0 => (if (decide (i7 < (List.length v0 : Int))) = true then (if 0 ≤ i7 then (v0[i7.toNat]?).bind fun y_1 => (spec_l00In y_1 0 (w_i64 (p2 - 1))).bind fun r_2 => (if (!r_2) = true then some false else spec_l03Column_l0 k n v0 n1 p2 (w_i64 (i7 + 1)) e_0) else none) else e_0 v0 n1)
def spec_l03Column (k : Nat) (v0 : List Int) (n1 : Int) (p2 : Int) : Option Bool := spec_l03Column_l0 k k v0 n1 p2 0 (fun v_3 n_4 => some (decide ((List.length v_3 : Int) = n_4)))
def spec_l03Column_l0_h : Head := ⟨[(0, (.val (.sl 2 (.int .i64)))), (1, (.val (.int .i64))), (2, (.val (.int .i64))), (7, (.val (.int .i64)))], [], []⟩
def spec_l03Column_l0_x0 : Head := ⟨[(0, (.val (.sl 2 (.int .i64)))), (1, (.val (.int .i64)))], [], []⟩
def spec_l03Column_l0_F (k n : Nat) (x : spec_l03Column_l0_h.T) (kx : Nat → St → Option Bool) : Option Bool := spec_l03Column_l0 k n x.1.1 x.1.2.1 x.1.2.2.1 x.1.2.2.2.1 (fun (v0 : List Int) (n1 : Int) => kx 0 (spec_l03Column_l0_x0.fill ((v0, n1, ()), (), ())))
def spec_l03Column_O (k : Nat) : Oracles Bool := ⟨fun n => bif Nat.beq n 2 then some (fun σ kx => spec_l03Column_l0_h.get σ fun x => spec_l03Column_l0_F k k x kx) else none, fun _ => none⟩
def fe_spec_l03Column (k : Nat) : FE := ⟨(.pr (.sl 2 (.int .i64)) (.pr (.int .i64) (.int .i64))), 1, .bool, fun x => spec_l03Column k x.1 x.2.1 x.2.2⟩
theorem spec_l03Column_l0_ok (k : Nat) : LoopOK (mkEnv ti [(59, fe_spec_l00In)] (lk []) pins0 pinB0) (spec_l03Column_O k) (rdC (mkEnv ti [(59, fe_spec_l00In)] (lk []) pins0 pinB0) [.tmp 6] .bool) ((loopsOf (codeOf Tryd.f67)).getD 0 .skip) (fun σ kx => spec_l03Column_l0_h.get σ fun x => spec_l03Column_l0_F k k x kx) := by
  refine ⟨spec_l03Column_l0_h, [(0, spec_l03Column_l0_x0)], fun n x kx => spec_l03Column_l0_F k n x kx, k, by kernel_rfl, by kernel_rfl, fun x kx => by kernel_rfl, ?_, fun σ kx => rfl⟩
  rintro n ⟨⟨v0, n1, p2, i7, ⟨⟩⟩, ⟨⟩, ⟨⟩⟩ kx
  kernel_rfl
theorem ok_spec_l03Column (k : Nat) : FnOK Tryd.prog 67 (fe_spec_l03Column k) := by
  refine closed_ok (tab := [(59, fe_spec_l00In)]) (l := []) ti_ok ti_ht mix (List.forall_mem_cons.2 ⟨ok_spec_l00In, (List.forall_mem_nil _)⟩) (List.forall_mem_nil _) ⟨⟨Tryd.f67, (codeOf Tryd.f67), [.tmp 6], (spec_l03Column_O k), by kernel_rfl, by kernel_rfl, by kernel_rfl, by kernel_rfl, rfl, by decide, ⟨by kernel_rfl, ?_, ?_⟩, ?_⟩⟩
  · refine loops_of (n := 1) (by kernel_rfl) fun i hi => ?_
    match i, hi with
    | 0, _ => exact loop_of (by kernel_rfl) (spec_l03Column_l0_ok k)
    | n + 1, hi => omega
  · exact no_cuts (by kernel_rfl)
  · rintro ⟨v0, n1, p2⟩
    kernel_rfl
/- 40 loop.example/g01005/spec.l03Ok -/
def spec_l03Ok (k : Nat) (m0 : Int × Int × Int × List Int) : Option Bool := (spec_ValidPrime k m0.1).bind fun r_1 => (if r_1 = true then (spec_l00In m0.2.1 0 32).bind fun r_2 => (if r_2 = true then (spec_l00In m0.2.2.1 0 32).bind fun r_3 => (if r_3 = true then (spec_l03Column k m0.2.2.2 (w_i64 (m0.2.1 * m0.2.2.1)) m0.1).bind fun r_4 => some r_4 else some false) else some false) else some false)
def fe_spec_l03Ok (k : Nat) : FE := ⟨(.ptr (.st (.pr (.int .i64) (.pr (.int .i64) (.pr (.int .i64) (.sl 2 (.int .i64))))))), 1, .bool, fun x => spec_l03Ok k x⟩
theorem ok_spec_l03Ok (k : Nat) : FnOK Tryd.prog 40 (fe_spec_l03Ok k) := by
  refine closed_ok (tab := [(66, fe_spec_ValidPrime k), (59, fe_spec_l00In), (67, fe_spec_l03Column k)]) (l := []) ti_ok ti_ht mix (List.forall_mem_cons.2 ⟨ok_spec_ValidPrime k, (List.forall_mem_cons.2 ⟨ok_spec_l00In, (List.forall_mem_cons.2 ⟨ok_spec_l03Column k, (List.forall_mem_nil _)⟩)⟩)⟩) (List.forall_mem_nil _) ⟨⟨Tryd.f40, (codeOf Tryd.f40), [.tmp 2], (LOn Bool), by kernel_rfl, by kernel_rfl, by kernel_rfl, by kernel_rfl, rfl, by decide, ⟨by kernel_rfl, ?_, ?_⟩, ?_⟩⟩
  · exact no_loops (by kernel_rfl)
  · exact no_cuts (by kernel_rfl)
  · rintro m0
    kernel_rfl
/- 41 loop.example/g01005/spec.l30Times -/
def spec_l30Times_l0 (k : Nat) : Nat → (List UInt8) → Int → (List UInt8) → Int → ((List UInt8) → Option (List UInt8)) → Option (List UInt8)
  | 0, _, _, _, _, _ => none
  | n + 1, c0, n1, out5, k6, e_0 => (if (decide (k6 < n1)) = true then (if out5.length + c0.length ≤ 9223372036854775807 then spec_l30Times_l0 k n c0 n1 (out5 ++ c0) (w_i64 (k6 + 1)) e_0 else none) else e_0 out5)
def spec_l30Times (k : Nat) (c0 : List UInt8) (n1 : Int) : Option (List UInt8) := spec_l30Times_l0 k k c0 n1 [] 0 (fun out_1 => some out_1)
def spec_l30Times_l0_h : Head := ⟨[(0, (.val .str)), (1, (.val (.int .i64))), (5, (.val .str)), (6, (.val (.int .i64)))], [], []⟩
def spec_l30Times_l0_x0 : Head := ⟨[(5, (.val .str))], [], []⟩
def spec_l30Times_l0_F (k n : Nat) (x : spec_l30Times_l0_h.T) (kx : Nat → St → Option (List UInt8)) : Option (List UInt8) := spec_l30Times_l0 k n x.1.1 x.1.2.1 x.1.2.2.1 x.1.2.2.2.1 (fun (out5 : List UInt8) => kx 0 (spec_l30Times_l0_x0.fill ((out5, ()), (), ())))
def spec_l30Times_O (k : Nat) : Oracles (List UInt8) := ⟨fun n => bif Nat.beq n 3 then some (fun σ kx => spec_l30Times_l0_h.get σ fun x => spec_l30Times_l0_F k k x kx) else none, fun _ => none⟩
def fe_spec_l30Times (k : Nat) : FE := ⟨(.pr .str (.int .i64)), 1, .str, fun x => spec_l30Times k x.1 x.2⟩
theorem spec_l30Times_l0_ok (k : Nat) : LoopOK (mkEnv ti [] (lk []) pins0 pinB0) (spec_l30Times_O k) (rdC (mkEnv ti [] (lk []) pins0 pinB0) [.tmp 4] .str) ((loopsOf (codeOf Tryd.f41)).getD 0 .skip) (fun σ kx => spec_l30Times_l0_h.get σ fun x => spec_l30Times_l0_F k k x kx) := by
  refine ⟨spec_l30Times_l0_h, [(0, spec_l30Times_l0_x0)], fun n x kx => spec_l30Times_l0_F k n x kx, k, by kernel_rfl, by kernel_rfl, fun x kx => by kernel_rfl, ?_, fun σ kx => rfl⟩
  rintro n ⟨⟨c0, n1, out5, k6, ⟨⟩⟩, ⟨⟩, ⟨⟩⟩ kx
  kernel_rfl
theorem ok_spec_l30Times (k : Nat) : FnOK Tryd.prog 41 (fe_spec_l30Times k) := by
  refine closed_ok (tab := []) (l := []) ti_ok ti_ht mix (List.forall_mem_nil _) (List.forall_mem_nil _) ⟨⟨Tryd.f41, (codeOf Tryd.f41), [.tmp 4], (spec_l30Times_O k), by kernel_rfl, by kernel_rfl, by kernel_rfl, by kernel_rfl, rfl, by decide, ⟨by kernel_rfl, ?_, ?_⟩, ?_⟩⟩
  · refine loops_of (n := 1) (by kernel_rfl) fun i hi => ?_
    match i, hi with
    | 0, _ => exact loop_of (by kernel_rfl) (spec_l30Times_l0_ok k)
    | n + 1, hi => omega
  · exact no_cuts (by kernel_rfl)
  · rintro ⟨c0, n1⟩
    kernel_rfl
end
end Go.Proofs.YtackggcodaolaaaDoor.Ev
