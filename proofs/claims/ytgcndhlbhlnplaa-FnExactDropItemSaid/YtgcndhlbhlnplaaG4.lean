/- Functions of the program, as plain ones. No conditions. -/
import Derived.Test.YtgcndhlbhlnplaaG3
import Derived.KernelRfl
set_option linter.unusedVariables false
set_option maxRecDepth 100000
namespace Go.Proofs.Ytgcndhlbhlnplaa.Ev
open Go.RowKit
noncomputable section
/- 36 loop.example/g01005/laws.eqStringS -/
def laws_eqStringS_l0 (k : Nat) : Nat → (List (List UInt8)) → (List (List UInt8)) → Int → (Option Bool) → Option Bool
  | 0, _, _, _, _ => none
  | n + 1, a0, b1, i5, e_0 => (if (decide (i5 < (List.length a0 : Int))) = true then (if 0 ≤ i5 then (a0[i5.toNat]?).bind fun y_1 => (if 0 ≤ i5 then (b1[i5.toNat]?).bind fun y_2 => (if (!(decide (y_1 = y_2))) = true then some false else laws_eqStringS_l0 k n a0 b1 (w_i64 (i5 + 1)) e_0) else none) else none) else e_0)
def laws_eqStringS (k : Nat) (a0 : List (List UInt8)) (b1 : List (List UInt8)) : Option Bool := (if (!(decide ((List.length a0 : Int) = (List.length b1 : Int)))) = true then some false else laws_eqStringS_l0 k k a0 b1 0 (some true))
def laws_eqStringS_l0_h : Head := ⟨[(0, (.val (.sl 9 .str))), (1, (.val (.sl 9 .str))), (5, (.val (.int .i64)))], [], []⟩
def laws_eqStringS_l0_x0 : Head := ⟨[], [], []⟩
def laws_eqStringS_l0_F (k n : Nat) (x : laws_eqStringS_l0_h.T) (kx : Nat → St → Option Bool) : Option Bool := laws_eqStringS_l0 k n x.1.1 x.1.2.1 x.1.2.2.1 (kx 0 (laws_eqStringS_l0_x0.fill ((), (), ())))
def laws_eqStringS_O (k : Nat) : Oracles Bool := ⟨fun n => bif Nat.beq n 4 then some (fun σ kx => laws_eqStringS_l0_h.get σ fun x => laws_eqStringS_l0_F k k x kx) else none, fun _ => none⟩
def fe_laws_eqStringS (k : Nat) : FE := ⟨(.pr (.sl 9 .str) (.sl 9 .str)), 1, .bool, fun x => laws_eqStringS k x.1 x.2⟩
theorem laws_eqStringS_l0_ok (k : Nat) : LoopOK (mkEnv ti [] (lk []) pins0 pinB0) (laws_eqStringS_O k) (rdC (mkEnv ti [] (lk []) pins0 pinB0) [.tmp 4] .bool) ((loopsOf (codeOf Try.f36)).getD 0 .skip) (fun σ kx => laws_eqStringS_l0_h.get σ fun x => laws_eqStringS_l0_F k k x kx) := by
  refine ⟨laws_eqStringS_l0_h, [(0, laws_eqStringS_l0_x0)], fun n x kx => laws_eqStringS_l0_F k n x kx, k, by kernel_rfl, by kernel_rfl, fun x kx => by kernel_rfl, ?_, fun σ kx => rfl⟩
  rintro n ⟨⟨a0, b1, i5, ⟨⟩⟩, ⟨⟩, ⟨⟩⟩ kx
  kernel_rfl
theorem ok_laws_eqStringS (k : Nat) : FnOK Try.prog 36 (fe_laws_eqStringS k) := by
  refine closed_ok (tab := []) (l := []) ti_ok ti_ht mix (List.forall_mem_nil _) (List.forall_mem_nil _) ⟨⟨Try.f36, (codeOf Try.f36), [.tmp 4], (laws_eqStringS_O k), by kernel_rfl, by kernel_rfl, by kernel_rfl, by kernel_rfl, rfl, by decide, ⟨by kernel_rfl, ?_, ?_⟩, ?_⟩⟩
  · refine loops_of (n := 1) (by kernel_rfl) fun i hi => ?_
    match i, hi with
    | 0, _ => exact loop_of (by kernel_rfl) (laws_eqStringS_l0_ok k)
    | n + 1, hi => omega
  · exact no_cuts (by kernel_rfl)
  · rintro ⟨a0, b1⟩
    kernel_rfl
/- 20 loop.example/g01005/laws.eqItem -/
def laws_eqItem (k : Nat) (a0 : List UInt8 × List (List UInt8) × Int × Int) (b1 : List UInt8 × List (List UInt8) × Int × Int) : Option Bool := (if (!(decide (a0.1 = b1.1))) = true then some false else (laws_eqStringS k a0.2.1 b1.2.1).bind fun r_1 => (if (!r_1) = true then some false else (if (!(decide (a0.2.2.1 = b1.2.2.1))) = true then some false else (if (!(decide (a0.2.2.2 = b1.2.2.2))) = true then some false else some true))))
def fe_laws_eqItem (k : Nat) : FE := ⟨(.pr (.st (.pr .str (.pr (.sl 9 .str) (.pr (.int .i64) (.int .i64))))) (.st (.pr .str (.pr (.sl 9 .str) (.pr (.int .i64) (.int .i64)))))), 1, .bool, fun x => laws_eqItem k x.1 x.2⟩
theorem ok_laws_eqItem (k : Nat) : FnOK Try.prog 20 (fe_laws_eqItem k) := by
  refine closed_ok (tab := [(36, fe_laws_eqStringS k)]) (l := []) ti_ok ti_ht mix (List.forall_mem_cons.2 ⟨ok_laws_eqStringS k, (List.forall_mem_nil _)⟩) (List.forall_mem_nil _) ⟨⟨Try.f20, (codeOf Try.f20), [.tmp 4], (LOn Bool), by kernel_rfl, by kernel_rfl, by kernel_rfl, by kernel_rfl, rfl, by decide, ⟨by kernel_rfl, ?_, ?_⟩, ?_⟩⟩
  · exact no_loops (by kernel_rfl)
  · exact no_cuts (by kernel_rfl)
  · rintro ⟨a0, b1⟩
    kernel_rfl
/- 8 loop.example/g01005/laws.eqItemS -/
def laws_eqItemS_l0 (k : Nat) : Nat → (List (List UInt8 × List (List UInt8) × Int × Int)) → (List (List UInt8 × List (List UInt8) × Int × Int)) → Int → (Option Bool) → Option Bool
  | 0, _, _, _, _ => none
  | n + 1, a0, b1, i5, e_0 => (if (decide (i5 < (List.length a0 : Int))) = true then (if 0 ≤ i5 then (a0[i5.toNat]?).bind fun y_1 => (if 0 ≤ i5 then (b1[i5.toNat]?).bind fun y_2 => (laws_eqItem k y_1 y_2).bind fun r_3 => (if (!r_3) = true then some false else laws_eqItemS_l0 k n a0 b1 (w_i64 (i5 + 1)) e_0) else none) else none) else e_0)
def laws_eqItemS (k : Nat) (a0 : List (List UInt8 × List (List UInt8) × Int × Int)) (b1 : List (List UInt8 × List (List UInt8) × Int × Int)) : Option Bool := (if (!(decide ((List.length a0 : Int) = (List.length b1 : Int)))) = true then some false else laws_eqItemS_l0 k k a0 b1 0 (some true))
def laws_eqItemS_l0_h : Head := ⟨[(0, (.val (.sl 37 (.st (.pr .str (.pr (.sl 9 .str) (.pr (.int .i64) (.int .i64)))))))), (1, (.val (.sl 37 (.st (.pr .str (.pr (.sl 9 .str) (.pr (.int .i64) (.int .i64)))))))), (5, (.val (.int .i64)))], [], []⟩
def laws_eqItemS_l0_x0 : Head := ⟨[], [], []⟩
def laws_eqItemS_l0_F (k n : Nat) (x : laws_eqItemS_l0_h.T) (kx : Nat → St → Option Bool) : Option Bool := laws_eqItemS_l0 k n x.1.1 x.1.2.1 x.1.2.2.1 (kx 0 (laws_eqItemS_l0_x0.fill ((), (), ())))
def laws_eqItemS_O (k : Nat) : Oracles Bool := ⟨fun n => bif Nat.beq n 4 then some (fun σ kx => laws_eqItemS_l0_h.get σ fun x => laws_eqItemS_l0_F k k x kx) else none, fun _ => none⟩
def fe_laws_eqItemS (k : Nat) : FE := ⟨(.pr (.sl 37 (.st (.pr .str (.pr (.sl 9 .str) (.pr (.int .i64) (.int .i64)))))) (.sl 37 (.st (.pr .str (.pr (.sl 9 .str) (.pr (.int .i64) (.int .i64))))))), 1, .bool, fun x => laws_eqItemS k x.1 x.2⟩
theorem laws_eqItemS_l0_ok (k : Nat) : LoopOK (mkEnv ti [(20, fe_laws_eqItem k)] (lk []) pins0 pinB0) (laws_eqItemS_O k) (rdC (mkEnv ti [(20, fe_laws_eqItem k)] (lk []) pins0 pinB0) [.tmp 4] .bool) ((loopsOf (codeOf Try.f8)).getD 0 .skip) (fun σ kx => laws_eqItemS_l0_h.get σ fun x => laws_eqItemS_l0_F k k x kx) := by
  refine ⟨laws_eqItemS_l0_h, [(0, laws_eqItemS_l0_x0)], fun n x kx => laws_eqItemS_l0_F k n x kx, k, by kernel_rfl, by kernel_rfl, fun x kx => by kernel_rfl, ?_, fun σ kx => rfl⟩
  rintro n ⟨⟨a0, b1, i5, ⟨⟩⟩, ⟨⟩, ⟨⟩⟩ kx
  kernel_rfl
theorem ok_laws_eqItemS (k : Nat) : FnOK Try.prog 8 (fe_laws_eqItemS k) := by
  refine closed_ok (tab := [(20, fe_laws_eqItem k)]) (l := []) ti_ok ti_ht mix (List.forall_mem_cons.2 ⟨ok_laws_eqItem k, (List.forall_mem_nil _)⟩) (List.forall_mem_nil _) ⟨⟨Try.f8, (codeOf Try.f8), [.tmp 4], (laws_eqItemS_O k), by kernel_rfl, by kernel_rfl, by kernel_rfl, by kernel_rfl, rfl, by decide, ⟨by kernel_rfl, ?_, ?_⟩, ?_⟩⟩
  · refine loops_of (n := 1) (by kernel_rfl) fun i hi => ?_
    match i, hi with
    | 0, _ => exact loop_of (by kernel_rfl) (laws_eqItemS_l0_ok k)
    | n + 1, hi => omega
  · exact no_cuts (by kernel_rfl)
  · rintro ⟨a0, b1⟩
    kernel_rfl
/- 21 loop.example/g01005/laws.markText -/
def laws_markText_l0 (k : Nat) : Nat → Int → (List UInt8) → ((List UInt8) → Option (List UInt8)) → Option (List UInt8)
  | 0, _, _, _ => none
  | n + 1, k0, out3, e_0 => (if (decide (0 < k0)) = true then (if (to_S [(w_u8 ((w_i64 (48 + (Int.tmod k0 10)))))]).length + out3.length ≤ 9223372036854775807 then laws_markText_l0 k n (w_i64 (Int.tdiv k0 10)) ((to_S [(w_u8 ((w_i64 (48 + (Int.tmod k0 10)))))]) ++ out3) e_0 else none) else e_0 out3)
def laws_markText (k : Nat) (k0 : Int) : Option (List UInt8) := (if (decide (k0 ≤ 0)) = true then some [109, 48] else laws_markText_l0 k k k0 [] (fun out_1 => (if [109].length + out_1.length ≤ 9223372036854775807 then some ([109] ++ out_1) else none)))
def laws_markText_l0_h : Head := ⟨[(0, (.val (.int .i64))), (3, (.val .str))], [], []⟩
def laws_markText_l0_x0 : Head := ⟨[(3, (.val .str))], [], []⟩
def laws_markText_l0_F (k n : Nat) (x : laws_markText_l0_h.T) (kx : Nat → St → Option (List UInt8)) : Option (List UInt8) := laws_markText_l0 k n x.1.1 x.1.2.1 (fun (out3 : List UInt8) => kx 0 (laws_markText_l0_x0.fill ((out3, ()), (), ())))
def laws_markText_O (k : Nat) : Oracles (List UInt8) := ⟨fun n => bif Nat.beq n 4 then some (fun σ kx => laws_markText_l0_h.get σ fun x => laws_markText_l0_F k k x kx) else none, fun _ => none⟩
def fe_laws_markText (k : Nat) : FE := ⟨(.int .i64), 1, .str, fun x => laws_markText k x⟩
theorem laws_markText_l0_ok (k : Nat) : LoopOK (mkEnv ti [] (lk []) pins0 pinB0) (laws_markText_O k) (rdC (mkEnv ti [] (lk []) pins0 pinB0) [.tmp 2] .str) ((loopsOf (codeOf Try.f21)).getD 0 .skip) (fun σ kx => laws_markText_l0_h.get σ fun x => laws_markText_l0_F k k x kx) := by
  refine ⟨laws_markText_l0_h, [(0, laws_markText_l0_x0)], fun n x kx => laws_markText_l0_F k n x kx, k, by kernel_rfl, by kernel_rfl, fun x kx => by kernel_rfl, ?_, fun σ kx => rfl⟩
  rintro n ⟨⟨k0, out3, ⟨⟩⟩, ⟨⟩, ⟨⟩⟩ kx
  kernel_rfl
theorem ok_laws_markText (k : Nat) : FnOK Try.prog 21 (fe_laws_markText k) := by
  refine closed_ok (tab := []) (l := []) ti_ok ti_ht mix (List.forall_mem_nil _) (List.forall_mem_nil _) ⟨⟨Try.f21, (codeOf Try.f21), [.tmp 2], (laws_markText_O k), by kernel_rfl, by kernel_rfl, by kernel_rfl, by kernel_rfl, rfl, by decide, ⟨by kernel_rfl, ?_, ?_⟩, ?_⟩⟩
  · refine loops_of (n := 1) (by kernel_rfl) fun i hi => ?_
    match i, hi with
    | 0, _ => exact loop_of (by kernel_rfl) (laws_markText_l0_ok k)
    | n + 1, hi => omega
  · exact no_cuts (by kernel_rfl)
  · rintro k0
    kernel_rfl
/- 22 loop.example/g01005/laws.markStringS (open) -/
def laws_markStringS_o_i10_SLSII_l0 (k : Nat) : Nat → Nat → Int → Int → (List (List UInt8 × List (List UInt8) × Int × Int)) → (Int → (List (List UInt8 × List (List UInt8) × Int × Int)) → Option (((Int × Unit) × ((List (List UInt8 × List (List UInt8) × Int × Int)) × Unit) × Unit))) → Option (((Int × Unit) × ((List (List UInt8 × List (List UInt8) × Int × Int)) × Unit) × Unit))
  | 0, _, _, _, _, _ => none
  | n + 1, a0n0, k1, i5, q_2, e_0 => (q_2[a0n0]?).bind fun y_3 => (if (decide (i5 < (List.length y_3.2.1 : Int))) = true then (laws_markText k k1).bind fun r_4 => (q_2[a0n0]?).bind fun y_5 => (if 0 ≤ i5 ∧ i5.toNat < List.length y_5.2.1 then (q_2[a0n0]?).bind fun y_6 => (y_6.2.1[i5.toNat]?).bind fun y_7 => (q_2[a0n0]?).bind fun y_8 => (y_8.2.1[i5.toNat]?).bind fun y_9 => laws_markStringS_o_i10_SLSII_l0 k n a0n0 (w_i64 (k1 + 1)) (w_i64 (i5 + 1)) (q_2.set a0n0 (y_8.1, ((y_8.2.1.set i5.toNat r_4), y_8.2.2))) e_0 else none) else e_0 k1 q_2)
def laws_markStringS_o_i10_SLSII (k : Nat) (a0n0 : Nat) (k1 : Int) (q_1 : List (List UInt8 × List (List UInt8) × Int × Int)) : Option (((Int × Unit) × ((List (List UInt8 × List (List UInt8) × Int × Int)) × Unit) × Unit)) := laws_markStringS_o_i10_SLSII_l0 k k a0n0 k1 0 q_1 (fun k_10 q_11 => some ((k_10, ()), (q_11, ()), ()))
def laws_markStringS_o_i10_SLSII_l0_h : Head := ⟨[(0, (.ref 1000000000 [.ix, .f true, .f false])), (1, (.val (.int .i64))), (5, (.val (.int .i64)))], [(1000000000, 37, (.st (.pr .str (.pr (.sl 9 .str) (.pr (.int .i64) (.int .i64))))), false)], []⟩
def laws_markStringS_o_i10_SLSII_l0_x0 : Head := ⟨[(1, (.val (.int .i64)))], [(1000000000, 37, (.st (.pr .str (.pr (.sl 9 .str) (.pr (.int .i64) (.int .i64))))), false)], []⟩
def laws_markStringS_o_i10_SLSII_l0_F (k n : Nat) (x : laws_markStringS_o_i10_SLSII_l0_h.T) (kx : Nat → St → Option (((Int × Unit) × ((List (List UInt8 × List (List UInt8) × Int × Int)) × Unit) × Unit))) : Option (((Int × Unit) × ((List (List UInt8 × List (List UInt8) × Int × Int)) × Unit) × Unit)) := laws_markStringS_o_i10_SLSII_l0 k n x.1.1.1 x.1.2.1 x.1.2.2.1 x.2.1.1 (fun (k1 : Int) (q_10 : List (List UInt8 × List (List UInt8) × Int × Int)) => kx 0 (laws_markStringS_o_i10_SLSII_l0_x0.fill ((k1, ()), (q_10, ()), ())))
def laws_markStringS_o_i10_SLSII_O (k : Nat) : Oracles (((Int × Unit) × ((List (List UInt8 × List (List UInt8) × Int × Int)) × Unit) × Unit)) := ⟨fun n => bif Nat.beq n 2 then some (fun σ kx => laws_markStringS_o_i10_SLSII_l0_h.get σ fun x => laws_markStringS_o_i10_SLSII_l0_F k k x kx) else none, fun _ => none⟩
def laws_markStringS_o_i10_SLSII_hi : Head := ⟨[(0, (.ref 1000000000 [.ix, .f true, .f false])), (1, (.val (.int .i64)))], [(1000000000, 37, (.st (.pr .str (.pr (.sl 9 .str) (.pr (.int .i64) (.int .i64))))), false)], []⟩
def laws_markStringS_o_i10_SLSII_ho : Head := ⟨[(0, (.val (.int .i64)))], [(1000000000, 37, (.st (.pr .str (.pr (.sl 9 .str) (.pr (.int .i64) (.int .i64))))), false)], []⟩
def oc_laws_markStringS_o_i10_SLSII (k : Nat) : OC := ⟨laws_markStringS_o_i10_SLSII_hi, laws_markStringS_o_i10_SLSII_ho, fun x => laws_markStringS_o_i10_SLSII k x.1.1.1 x.1.2.1 x.2.1.1, false⟩
theorem laws_markStringS_o_i10_SLSII_l0_ok (k : Nat) (pins : Nat → Value) (pinB : Nat → Nat) : LoopOK (mkEnv ti [(21, fe_laws_markText k)] (lk []) pins pinB) (laws_markStringS_o_i10_SLSII_O k) (rdO (mkEnv ti [(21, fe_laws_markText k)] (lk []) pins pinB) [.tmp 4] laws_markStringS_o_i10_SLSII_ho) ((loopsOf (codeOf Try.f22)).getD 0 .skip) (fun σ kx => laws_markStringS_o_i10_SLSII_l0_h.get σ fun x => laws_markStringS_o_i10_SLSII_l0_F k k x kx) := by
  refine ⟨laws_markStringS_o_i10_SLSII_l0_h, [(0, laws_markStringS_o_i10_SLSII_l0_x0)], fun n x kx => laws_markStringS_o_i10_SLSII_l0_F k n x kx, k, by kernel_rfl, by kernel_rfl, fun x kx => by kernel_rfl, ?_, fun σ kx => rfl⟩
  rintro n ⟨⟨⟨a0n0, ⟨⟩⟩, k1, i5, ⟨⟩⟩, ⟨q_2, ⟨⟩⟩, ⟨⟩⟩ kx
  kernel_rfl
theorem ok_laws_markStringS_o_i10_SLSII (k : Nat) : OpenOK Try.prog ti 22 (oc_laws_markStringS_o_i10_SLSII k) := by
  refine open_ok (tab := [(21, fe_laws_markText k)]) (l := []) ti_ok ti_ht mix (List.forall_mem_cons.2 ⟨ok_laws_markText k, (List.forall_mem_nil _)⟩) (List.forall_mem_nil _) ⟨by kernel_rfl, by kernel_rfl, by kernel_rfl, Try.f22, (codeOf Try.f22), [.tmp 4], (laws_markStringS_o_i10_SLSII_O k), by kernel_rfl, by kernel_rfl, by kernel_rfl, by kernel_rfl, Nat.le_of_ble_eq_true (by kernel_rfl), fun pins pinB => ⟨⟨by kernel_rfl, ?_, ?_⟩, ?_⟩⟩
  · refine loops_of (n := 1) (by kernel_rfl) fun i hi => ?_
    match i, hi with
    | 0, _ => exact loop_of (by kernel_rfl) (laws_markStringS_o_i10_SLSII_l0_ok k pins pinB)
    | n + 1, hi => omega
  · exact no_cuts (by kernel_rfl)
  · rintro ⟨⟨⟨a0n0, ⟨⟩⟩, k1, ⟨⟩⟩, ⟨q_1, ⟨⟩⟩, ⟨⟩⟩
    kernel_rfl
/- 9 loop.example/g01005/laws.markItemS (open) -/
def laws_markItemS_o_l0 (k : Nat) : Nat → Int → Int → (List (List UInt8 × List (List UInt8) × Int × Int)) → (Int → (List (List UInt8 × List (List UInt8) × Int × Int)) → Option (((Int × Unit) × ((List (List UInt8 × List (List UInt8) × Int × Int)) × Unit) × Unit))) → Option (((Int × Unit) × ((List (List UInt8 × List (List UInt8) × Int × Int)) × Unit) × Unit))
  | 0, _, _, _, _ => none
  | n + 1, k1, i5, q_2, e_0 => (if (decide (i5 < (List.length q_2 : Int))) = true then (laws_markText k k1).bind fun r_3 => (if 0 ≤ i5 ∧ i5.toNat < List.length q_2 then (q_2[i5.toNat]?).bind fun y_4 => (q_2[i5.toNat]?).bind fun y_5 => (if 0 ≤ i5 ∧ i5.toNat < List.length (q_2.set i5.toNat (r_3, y_4.2)) then ((q_2.set i5.toNat (r_3, y_4.2))[i5.toNat]?).bind fun y_6 => (laws_markStringS_o_i10_SLSII k i5.toNat (w_i64 (k1 + 1)) (q_2.set i5.toNat (r_3, y_4.2))).bind fun y_7 => (if 0 ≤ i5 ∧ i5.toNat < List.length y_7.2.1.1 then (y_7.2.1.1[i5.toNat]?).bind fun y_8 => (y_7.2.1.1[i5.toNat]?).bind fun y_9 => (if 0 ≤ i5 ∧ i5.toNat < List.length (y_7.2.1.1.set i5.toNat (y_8.1, (y_8.2.1, (y_7.1.1, y_8.2.2.2)))) then ((y_7.2.1.1.set i5.toNat (y_8.1, (y_8.2.1, (y_7.1.1, y_8.2.2.2))))[i5.toNat]?).bind fun y_10 => ((y_7.2.1.1.set i5.toNat (y_8.1, (y_8.2.1, (y_7.1.1, y_8.2.2.2))))[i5.toNat]?).bind fun y_11 => laws_markItemS_o_l0 k n (w_i64 ((w_i64 (y_7.1.1 + 1)) + 1)) (w_i64 (i5 + 1)) ((y_7.2.1.1.set i5.toNat (y_8.1, (y_8.2.1, (y_7.1.1, y_8.2.2.2)))).set i5.toNat (y_10.1, (y_10.2.1, (y_10.2.2.1, (w_i64 (y_7.1.1 + 1)))))) e_0 else none) else none) else none) else none) else e_0 k1 q_2)
def laws_markItemS_o (k : Nat) (k1 : Int) (q_1 : List (List UInt8 × List (List UInt8) × Int × Int)) : Option (((Int × Unit) × ((List (List UInt8 × List (List UInt8) × Int × Int)) × Unit) × Unit)) := laws_markItemS_o_l0 k k k1 0 q_1 (fun k_12 q_13 => some ((k_12, ()), (q_13, ()), ()))
def laws_markItemS_o_l0_h : Head := ⟨[(0, (.ref 1000000000 [])), (1, (.val (.int .i64))), (5, (.val (.int .i64)))], [(1000000000, 37, (.st (.pr .str (.pr (.sl 9 .str) (.pr (.int .i64) (.int .i64))))), false)], []⟩
def laws_markItemS_o_l0_x0 : Head := ⟨[(1, (.val (.int .i64)))], [(1000000000, 37, (.st (.pr .str (.pr (.sl 9 .str) (.pr (.int .i64) (.int .i64))))), false)], []⟩
def laws_markItemS_o_l0_F (k n : Nat) (x : laws_markItemS_o_l0_h.T) (kx : Nat → St → Option (((Int × Unit) × ((List (List UInt8 × List (List UInt8) × Int × Int)) × Unit) × Unit))) : Option (((Int × Unit) × ((List (List UInt8 × List (List UInt8) × Int × Int)) × Unit) × Unit)) := laws_markItemS_o_l0 k n x.1.2.1 x.1.2.2.1 x.2.1.1 (fun (k1 : Int) (q_13 : List (List UInt8 × List (List UInt8) × Int × Int)) => kx 0 (laws_markItemS_o_l0_x0.fill ((k1, ()), (q_13, ()), ())))
def laws_markItemS_o_O (k : Nat) : Oracles (((Int × Unit) × ((List (List UInt8 × List (List UInt8) × Int × Int)) × Unit) × Unit)) := ⟨fun n => bif Nat.beq n 2 then some (fun σ kx => laws_markItemS_o_l0_h.get σ fun x => laws_markItemS_o_l0_F k k x kx) else none, fun _ => none⟩
def laws_markItemS_o_hi : Head := ⟨[(0, (.ref 1000000000 [])), (1, (.val (.int .i64)))], [(1000000000, 37, (.st (.pr .str (.pr (.sl 9 .str) (.pr (.int .i64) (.int .i64))))), false)], []⟩
def laws_markItemS_o_ho : Head := ⟨[(0, (.val (.int .i64)))], [(1000000000, 37, (.st (.pr .str (.pr (.sl 9 .str) (.pr (.int .i64) (.int .i64))))), false)], []⟩
def oc_laws_markItemS_o (k : Nat) : OC := ⟨laws_markItemS_o_hi, laws_markItemS_o_ho, fun x => laws_markItemS_o k x.1.2.1 x.2.1.1, false⟩
theorem laws_markItemS_o_l0_ok (k : Nat) (pins : Nat → Value) (pinB : Nat → Nat) : LoopOK (mkEnv ti [(21, fe_laws_markText k)] (lk [(26, 22, oc_laws_markStringS_o_i10_SLSII k)]) pins pinB) (laws_markItemS_o_O k) (rdO (mkEnv ti [(21, fe_laws_markText k)] (lk [(26, 22, oc_laws_markStringS_o_i10_SLSII k)]) pins pinB) [.tmp 4] laws_markItemS_o_ho) ((loopsOf (codeOf Try.f9)).getD 0 .skip) (fun σ kx => laws_markItemS_o_l0_h.get σ fun x => laws_markItemS_o_l0_F k k x kx) := by
  refine ⟨laws_markItemS_o_l0_h, [(0, laws_markItemS_o_l0_x0)], fun n x kx => laws_markItemS_o_l0_F k n x kx, k, by kernel_rfl, by kernel_rfl, fun x kx => by kernel_rfl, ?_, fun σ kx => rfl⟩
  rintro n ⟨⟨⟨⟩, k1, i5, ⟨⟩⟩, ⟨q_2, ⟨⟩⟩, ⟨⟩⟩ kx
  kernel_rfl
theorem ok_laws_markItemS_o (k : Nat) : OpenOK Try.prog ti 9 (oc_laws_markItemS_o k) := by
  refine open_ok (tab := [(21, fe_laws_markText k)]) (l := [(26, 22, oc_laws_markStringS_o_i10_SLSII k)]) ti_ok ti_ht mix (List.forall_mem_cons.2 ⟨ok_laws_markText k, (List.forall_mem_nil _)⟩) (List.forall_mem_cons.2 ⟨ok_laws_markStringS_o_i10_SLSII k, (List.forall_mem_nil _)⟩) ⟨by kernel_rfl, by kernel_rfl, by kernel_rfl, Try.f9, (codeOf Try.f9), [.tmp 4], (laws_markItemS_o_O k), by kernel_rfl, by kernel_rfl, by kernel_rfl, by kernel_rfl, Nat.le_of_ble_eq_true (by kernel_rfl), fun pins pinB => ⟨⟨by kernel_rfl, ?_, ?_⟩, ?_⟩⟩
  · refine loops_of (n := 1) (by kernel_rfl) fun i hi => ?_
    match i, hi with
    | 0, _ => exact loop_of (by kernel_rfl) (laws_markItemS_o_l0_ok k pins pinB)
    | n + 1, hi => omega
  · exact no_cuts (by kernel_rfl)
  · rintro ⟨⟨⟨⟩, k1, ⟨⟩⟩, ⟨q_1, ⟨⟩⟩, ⟨⟩⟩
    kernel_rfl
/- 23 loop.example/g01005/laws.heldStringS -/
def laws_heldStringS_l0 (k : Nat) : Nat → (List (List UInt8)) → Int → Int → (Int → Option Int) → Option Int
  | 0, _, _, _, _ => none
  | n + 1, a0, k1, i5, e_0 => (if (decide (i5 < (List.length a0 : Int))) = true then (if 0 ≤ i5 then (a0[i5.toNat]?).bind fun y_1 => (laws_markText k k1).bind fun r_2 => (if (!(decide (y_1 = r_2))) = true then some (-1) else laws_heldStringS_l0 k n a0 (w_i64 (k1 + 1)) (w_i64 (i5 + 1)) e_0) else none) else e_0 k1)
def laws_heldStringS (k : Nat) (a0 : List (List UInt8)) (k1 : Int) : Option Int := laws_heldStringS_l0 k k a0 k1 0 (fun k_3 => some k_3)
def laws_heldStringS_l0_h : Head := ⟨[(0, (.val (.sl 9 .str))), (1, (.val (.int .i64))), (5, (.val (.int .i64)))], [], []⟩
def laws_heldStringS_l0_x0 : Head := ⟨[(1, (.val (.int .i64)))], [], []⟩
def laws_heldStringS_l0_F (k n : Nat) (x : laws_heldStringS_l0_h.T) (kx : Nat → St → Option Int) : Option Int := laws_heldStringS_l0 k n x.1.1 x.1.2.1 x.1.2.2.1 (fun (k1 : Int) => kx 0 (laws_heldStringS_l0_x0.fill ((k1, ()), (), ())))
def laws_heldStringS_O (k : Nat) : Oracles Int := ⟨fun n => bif Nat.beq n 2 then some (fun σ kx => laws_heldStringS_l0_h.get σ fun x => laws_heldStringS_l0_F k k x kx) else none, fun _ => none⟩
def fe_laws_heldStringS (k : Nat) : FE := ⟨(.pr (.sl 9 .str) (.int .i64)), 1, (.int .i64), fun x => laws_heldStringS k x.1 x.2⟩
theorem laws_heldStringS_l0_ok (k : Nat) : LoopOK (mkEnv ti [(21, fe_laws_markText k)] (lk []) pins0 pinB0) (laws_heldStringS_O k) (rdC (mkEnv ti [(21, fe_laws_markText k)] (lk []) pins0 pinB0) [.tmp 4] (.int .i64)) ((loopsOf (codeOf Try.f23)).getD 0 .skip) (fun σ kx => laws_heldStringS_l0_h.get σ fun x => laws_heldStringS_l0_F k k x kx) := by
  refine ⟨laws_heldStringS_l0_h, [(0, laws_heldStringS_l0_x0)], fun n x kx => laws_heldStringS_l0_F k n x kx, k, by kernel_rfl, by kernel_rfl, fun x kx => by kernel_rfl, ?_, fun σ kx => rfl⟩
  rintro n ⟨⟨a0, k1, i5, ⟨⟩⟩, ⟨⟩, ⟨⟩⟩ kx
  kernel_rfl
theorem ok_laws_heldStringS (k : Nat) : FnOK Try.prog 23 (fe_laws_heldStringS k) := by
  refine closed_ok (tab := [(21, fe_laws_markText k)]) (l := []) ti_ok ti_ht mix (List.forall_mem_cons.2 ⟨ok_laws_markText k, (List.forall_mem_nil _)⟩) (List.forall_mem_nil _) ⟨⟨Try.f23, (codeOf Try.f23), [.tmp 4], (laws_heldStringS_O k), by kernel_rfl, by kernel_rfl, by kernel_rfl, by kernel_rfl, rfl, by decide, ⟨by kernel_rfl, ?_, ?_⟩, ?_⟩⟩
  · refine loops_of (n := 1) (by kernel_rfl) fun i hi => ?_
    match i, hi with
    | 0, _ => exact loop_of (by kernel_rfl) (laws_heldStringS_l0_ok k)
    | n + 1, hi => omega
  · exact no_cuts (by kernel_rfl)
  · rintro ⟨a0, k1⟩
    kernel_rfl
/- 10 loop.example/g01005/laws.heldItemS -/
def laws_heldItemS_l0 (k : Nat) : Nat → (List (List UInt8 × List (List UInt8) × Int × Int)) → Int → Int → (Int → Option Int) → Option Int
  | 0, _, _, _, _ => none
  | n + 1, a0, k1, i5, e_0 => (if (decide (i5 < (List.length a0 : Int))) = true then (if 0 ≤ i5 then (a0[i5.toNat]?).bind fun y_1 => (laws_markText k k1).bind fun r_2 => (if (!(decide (y_1.1 = r_2))) = true then some (-1) else (if 0 ≤ i5 then (a0[i5.toNat]?).bind fun y_3 => (laws_heldStringS k y_3.2.1 (w_i64 (k1 + 1))).bind fun r_4 => (if (decide (r_4 < 0)) = true then some (-1) else (if 0 ≤ i5 then (a0[i5.toNat]?).bind fun y_5 => (if (!(decide (y_5.2.2.1 = r_4))) = true then some (-1) else (if 0 ≤ i5 then (a0[i5.toNat]?).bind fun y_6 => (if (!(decide (y_6.2.2.2 = (w_i64 (r_4 + 1))))) = true then some (-1) else laws_heldItemS_l0 k n a0 (w_i64 ((w_i64 (r_4 + 1)) + 1)) (w_i64 (i5 + 1)) e_0) else none)) else none)) else none)) else none) else e_0 k1)
def laws_heldItemS (k : Nat) (a0 : List (List UInt8 × List (List UInt8) × Int × Int)) (k1 : Int) : Option Int := laws_heldItemS_l0 k k a0 k1 0 (fun k_7 => some k_7)
def laws_heldItemS_l0_h : Head := ⟨[(0, (.val (.sl 37 (.st (.pr .str (.pr (.sl 9 .str) (.pr (.int .i64) (.int .i64)))))))), (1, (.val (.int .i64))), (5, (.val (.int .i64)))], [], []⟩
def laws_heldItemS_l0_x0 : Head := ⟨[(1, (.val (.int .i64)))], [], []⟩
def laws_heldItemS_l0_F (k n : Nat) (x : laws_heldItemS_l0_h.T) (kx : Nat → St → Option Int) : Option Int := laws_heldItemS_l0 k n x.1.1 x.1.2.1 x.1.2.2.1 (fun (k1 : Int) => kx 0 (laws_heldItemS_l0_x0.fill ((k1, ()), (), ())))
def laws_heldItemS_O (k : Nat) : Oracles Int := ⟨fun n => bif Nat.beq n 2 then some (fun σ kx => laws_heldItemS_l0_h.get σ fun x => laws_heldItemS_l0_F k k x kx) else none, fun _ => none⟩
def fe_laws_heldItemS (k : Nat) : FE := ⟨(.pr (.sl 37 (.st (.pr .str (.pr (.sl 9 .str) (.pr (.int .i64) (.int .i64)))))) (.int .i64)), 1, (.int .i64), fun x => laws_heldItemS k x.1 x.2⟩
theorem laws_heldItemS_l0_ok (k : Nat) : LoopOK (mkEnv ti [(21, fe_laws_markText k), (23, fe_laws_heldStringS k)] (lk []) pins0 pinB0) (laws_heldItemS_O k) (rdC (mkEnv ti [(21, fe_laws_markText k), (23, fe_laws_heldStringS k)] (lk []) pins0 pinB0) [.tmp 4] (.int .i64)) ((loopsOf (codeOf Try.f10)).getD 0 .skip) (fun σ kx => laws_heldItemS_l0_h.get σ fun x => laws_heldItemS_l0_F k k x kx) := by
  refine ⟨laws_heldItemS_l0_h, [(0, laws_heldItemS_l0_x0)], fun n x kx => laws_heldItemS_l0_F k n x kx, k, by kernel_rfl, by kernel_rfl, fun x kx => by kernel_rfl, ?_, fun σ kx => rfl⟩
  rintro n ⟨⟨a0, k1, i5, ⟨⟩⟩, ⟨⟩, ⟨⟩⟩ kx
  kernel_rfl
theorem ok_laws_heldItemS (k : Nat) : FnOK Try.prog 10 (fe_laws_heldItemS k) := by
  refine closed_ok (tab := [(21, fe_laws_markText k), (23, fe_laws_heldStringS k)]) (l := []) ti_ok ti_ht mix (List.forall_mem_cons.2 ⟨ok_laws_markText k, (List.forall_mem_cons.2 ⟨ok_laws_heldStringS k, (List.forall_mem_nil _)⟩)⟩) (List.forall_mem_nil _) ⟨⟨Try.f10, (codeOf Try.f10), [.tmp 4], (laws_heldItemS_O k), by kernel_rfl, by kernel_rfl, by kernel_rfl, by kernel_rfl, rfl, by decide, ⟨by kernel_rfl, ?_, ?_⟩, ?_⟩⟩
  · refine loops_of (n := 1) (by kernel_rfl) fun i hi => ?_
    match i, hi with
    | 0, _ => exact loop_of (by kernel_rfl) (laws_heldItemS_l0_ok k)
    | n + 1, hi => omega
  · exact no_cuts (by kernel_rfl)
  · rintro ⟨a0, k1⟩
    kernel_rfl
/- 3 loop.example/g01005/laws.FnExactDropItem -/
def laws_FnExactDropItem (k : Nat) (aList0 : List (List UInt8 × List (List UInt8) × Int × Int)) (aName1 : List UInt8) : Option Bool := (if (decide (1048576 < (List.length aName1 : Int))) = true then some true else (laws_szItemS k aList0 1048576).bind fun r_1 => (if (decide (r_1 < 0)) = true then some true else (laws_toItemS k aList0).bind fun r_2 => (spec_DropItem_o k aName1 r_2).bind fun y_3 => (laws_toItemS k aList0).bind fun r_4 => (impl_DropItem k r_4 aName1).bind fun r_5 => (laws_eqItemS k r_5.1 y_3.2.1.2.1).bind fun r_6 => (if (!r_6) = true then some false else (if (!(decide (r_5.2 = y_3.1.1.2.1))) = true then some false else (laws_toItemS k aList0).bind fun r_7 => (laws_eqItemS k r_4 r_7).bind fun r_8 => (if (!r_8) = true then some false else (laws_markItemS_o k 1 r_4).bind fun y_9 => (if (decide (y_9.1.1 < 0)) = true then some false else (laws_eqItemS k r_5.1 y_3.2.1.2.1).bind fun r_10 => (if (!r_10) = true then some false else (if (!(decide (r_5.2 = y_3.1.1.2.1))) = true then some false else (laws_markItemS_o k 1 r_5.1).bind fun y_11 => (laws_heldItemS k y_11.2.1.1 1).bind fun r_12 => (if (decide (r_12 < 0)) = true then some false else (if (!(decide (r_12 = y_11.1.1))) = true then some false else (laws_toItemS k aList0).bind fun r_13 => (impl_DropItem k r_13 aName1).bind fun r_14 => (laws_eqItemS k r_14.1 y_3.2.1.2.1).bind fun r_15 => (if (!r_15) = true then some false else (if (!(decide (r_14.2 = y_3.1.1.2.1))) = true then some false else (laws_heldItemS k y_11.2.1.1 1).bind fun r_16 => (if (decide (r_16 < 0)) = true then some false else (if (!(decide (r_16 = y_11.1.1))) = true then some false else some true))))))))))))))
def fe_laws_FnExactDropItem (k : Nat) : FE := ⟨(.pr (.sl 34 (.st (.pr .str (.pr (.sl 9 .str) (.pr (.int .i64) (.int .i64)))))) .str), 1, .bool, fun x => laws_FnExactDropItem k x.1 x.2⟩
theorem ok_laws_FnExactDropItem (k : Nat) : FnOK Try.prog 3 (fe_laws_FnExactDropItem k) := by
  refine closed_ok (tab := [(4, fe_laws_szItemS k), (6, fe_laws_toItemS k), (7, fe_impl_DropItem k), (8, fe_laws_eqItemS k), (10, fe_laws_heldItemS k)]) (l := [(28, 5, oc_spec_DropItem_o k), (55, 9, oc_laws_markItemS_o k), (71, 9, oc_laws_markItemS_o k)]) tiR_ok tiR_ht mix (List.forall_mem_cons.2 ⟨ok_laws_szItemS k, (List.forall_mem_cons.2 ⟨ok_laws_toItemS k, (List.forall_mem_cons.2 ⟨ok_impl_DropItem k, (List.forall_mem_cons.2 ⟨ok_laws_eqItemS k, (List.forall_mem_cons.2 ⟨ok_laws_heldItemS k, (List.forall_mem_nil _)⟩)⟩)⟩)⟩)⟩) (List.forall_mem_cons.2 ⟨ok_spec_DropItem_o k, (List.forall_mem_cons.2 ⟨((ok_laws_markItemS_o k).to ti_sz), (List.forall_mem_cons.2 ⟨((ok_laws_markItemS_o k).to ti_sz), (List.forall_mem_nil _)⟩)⟩)⟩) ⟨⟨Try.f3, (codeOf Try.f3), [.tmp 4], (LOn Bool), by kernel_rfl, by kernel_rfl, by kernel_rfl, by kernel_rfl, rfl, by decide, ⟨by kernel_rfl, ?_, ?_⟩, ?_⟩⟩
  · exact no_loops (by kernel_rfl)
  · exact no_cuts (by kernel_rfl)
  · rintro ⟨aList0, aName1⟩
    kernel_rfl
end
end Go.Proofs.Ytgcndhlbhlnplaa.Ev
