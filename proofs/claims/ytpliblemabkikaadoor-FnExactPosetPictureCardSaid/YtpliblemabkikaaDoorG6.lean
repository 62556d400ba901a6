/- Functions of the program, as plain ones. No conditions. -/
import Derived.Test.YtpliblemabkikaaDoorG5
import Derived.KernelRfl
set_option linter.unusedVariables false
set_option maxRecDepth 100000
namespace Go.Proofs.YtpliblemabkikaaDoor.Ev
open Go.RowKit
noncomputable section
/- 9 loop.example/g01005/laws.eqPoset -/
def laws_eqPoset (k : Nat) (a0 : Int × List (List Int)) (b1 : Int × List (List Int)) : Option Bool := (if (!(decide (a0.1 = b1.1))) = true then some false else (laws_eqInt64SS k a0.2 b1.2).bind fun r_1 => (if (!r_1) = true then some false else some true))
def fe_laws_eqPoset (k : Nat) : FE := ⟨(.pr (.st (.pr (.int .i64) (.sl 41 (.sl 2 (.int .i64))))) (.st (.pr (.int .i64) (.sl 41 (.sl 2 (.int .i64)))))), 1, .bool, fun x => laws_eqPoset k x.1 x.2⟩
theorem ok_laws_eqPoset (k : Nat) : FnOK Tryd.prog 9 (fe_laws_eqPoset k) := by
  refine closed_ok (tab := [(27, fe_laws_eqInt64SS k)]) (l := []) ti_ok ti_ht mix (List.forall_mem_cons.2 ⟨ok_laws_eqInt64SS k, (List.forall_mem_nil _)⟩) (List.forall_mem_nil _) ⟨⟨Tryd.f9, (codeOf Tryd.f9), [.tmp 4], (LOn Bool), by kernel_rfl, by kernel_rfl, by kernel_rfl, by kernel_rfl, rfl, by decide, ⟨by kernel_rfl, ?_, ?_⟩, ?_⟩⟩
  · exact no_loops (by kernel_rfl)
  · exact no_cuts (by kernel_rfl)
  · rintro ⟨a0, b1⟩
    kernel_rfl
/- 54 loop.example/g01005/laws.markInt64S (open) -/
def laws_markInt64S_o_i_LI_l0 (k : Nat) : Nat → Nat → Int → Int → (List (List Int)) → (Int → (List (List Int)) → Option (((Int × Unit) × ((List (List Int)) × Unit) × Unit))) → Option (((Int × Unit) × ((List (List Int)) × Unit) × Unit))
  | 0, _, _, _, _, _ => none
  | n + 1, a0n0, k1, i5, q_2, e_0 => (q_2[a0n0]?).bind fun y_3 => (if (decide (i5 < (List.length y_3 : Int))) = true then (q_2[a0n0]?).bind fun y_4 => (if 0 ≤ i5 ∧ i5.toNat < List.length y_4 then (q_2[a0n0]?).bind fun y_5 => (y_5[i5.toNat]?).bind fun y_6 => (q_2[a0n0]?).bind fun y_7 => (y_7[i5.toNat]?).bind fun y_8 => laws_markInt64S_o_i_LI_l0 k n a0n0 (w_i64 (k1 + 1)) (w_i64 (i5 + 1)) (q_2.set a0n0 (y_7.set i5.toNat k1)) e_0 else none) else e_0 k1 q_2)
def laws_markInt64S_o_i_LI (k : Nat) (a0n0 : Nat) (k1 : Int) (q_1 : List (List Int)) : Option (((Int × Unit) × ((List (List Int)) × Unit) × Unit)) := laws_markInt64S_o_i_LI_l0 k k a0n0 k1 0 q_1 (fun k_9 q_10 => some ((k_9, ()), (q_10, ()), ()))
def laws_markInt64S_o_i_LI_l0_h : Head := ⟨[(0, (.ref 1000000000 [.ix])), (1, (.val (.int .i64))), (5, (.val (.int .i64)))], [(1000000000, 41, (.sl 2 (.int .i64)), false)], []⟩
def laws_markInt64S_o_i_LI_l0_x0 : Head := ⟨[(1, (.val (.int .i64)))], [(1000000000, 41, (.sl 2 (.int .i64)), false)], []⟩
def laws_markInt64S_o_i_LI_l0_F (k n : Nat) (x : laws_markInt64S_o_i_LI_l0_h.T) (kx : Nat → St → Option (((Int × Unit) × ((List (List Int)) × Unit) × Unit))) : Option (((Int × Unit) × ((List (List Int)) × Unit) × Unit)) := laws_markInt64S_o_i_LI_l0 k n x.1.1.1 x.1.2.1 x.1.2.2.1 x.2.1.1 (fun (k1 : Int) (q_9 : List (List Int)) => kx 0 (laws_markInt64S_o_i_LI_l0_x0.fill ((k1, ()), (q_9, ()), ())))
def laws_markInt64S_o_i_LI_O (k : Nat) : Oracles (((Int × Unit) × ((List (List Int)) × Unit) × Unit)) := ⟨fun n => bif Nat.beq n 2 then some (fun σ kx => laws_markInt64S_o_i_LI_l0_h.get σ fun x => laws_markInt64S_o_i_LI_l0_F k k x kx) else none, fun _ => none⟩
def laws_markInt64S_o_i_LI_hi : Head := ⟨[(0, (.ref 1000000000 [.ix])), (1, (.val (.int .i64)))], [(1000000000, 41, (.sl 2 (.int .i64)), false)], []⟩
def laws_markInt64S_o_i_LI_ho : Head := ⟨[(0, (.val (.int .i64)))], [(1000000000, 41, (.sl 2 (.int .i64)), false)], []⟩
def oc_laws_markInt64S_o_i_LI (k : Nat) : OC := ⟨laws_markInt64S_o_i_LI_hi, laws_markInt64S_o_i_LI_ho, fun x => laws_markInt64S_o_i_LI k x.1.1.1 x.1.2.1 x.2.1.1⟩
theorem laws_markInt64S_o_i_LI_l0_ok (k : Nat) (pins : Nat → Value) (pinB : Nat → Nat) : LoopOK (mkEnv ti [] (lk []) pins pinB) (laws_markInt64S_o_i_LI_O k) (rdO (mkEnv ti [] (lk []) pins pinB) [.tmp 4] laws_markInt64S_o_i_LI_ho) ((loopsOf (codeOf Tryd.f54)).getD 0 .skip) (fun σ kx => laws_markInt64S_o_i_LI_l0_h.get σ fun x => laws_markInt64S_o_i_LI_l0_F k k x kx) := by
  refine ⟨laws_markInt64S_o_i_LI_l0_h, [(0, laws_markInt64S_o_i_LI_l0_x0)], fun n x kx => laws_markInt64S_o_i_LI_l0_F k n x kx, k, by kernel_rfl, by kernel_rfl, fun x kx => by kernel_rfl, ?_, fun σ kx => rfl⟩
  rintro n ⟨⟨⟨a0n0, ⟨⟩⟩, k1, i5, ⟨⟩⟩, ⟨q_2, ⟨⟩⟩, ⟨⟩⟩ kx
  kernel_rfl
theorem ok_laws_markInt64S_o_i_LI (k : Nat) : OpenOK Tryd.prog ti 54 (oc_laws_markInt64S_o_i_LI k) := by
  refine open_ok (tab := []) (l := []) ti_ok ti_ht mix (List.forall_mem_nil _) (List.forall_mem_nil _) ⟨by kernel_rfl, by kernel_rfl, Tryd.f54, (codeOf Tryd.f54), [.tmp 4], (laws_markInt64S_o_i_LI_O k), by kernel_rfl, by kernel_rfl, by kernel_rfl, by kernel_rfl, Nat.le_of_ble_eq_true (by kernel_rfl), fun pins pinB => ⟨⟨by kernel_rfl, ?_, ?_⟩, ?_⟩⟩
  · refine loops_of (n := 1) (by kernel_rfl) fun i hi => ?_
    match i, hi with
    | 0, _ => exact loop_of (by kernel_rfl) (laws_markInt64S_o_i_LI_l0_ok k pins pinB)
    | n + 1, hi => omega
  · exact no_cuts (by kernel_rfl)
  · rintro ⟨⟨⟨a0n0, ⟨⟩⟩, k1, ⟨⟩⟩, ⟨q_1, ⟨⟩⟩, ⟨⟩⟩
    kernel_rfl
/- 28 loop.example/g01005/laws.markInt64SS (open) -/
def laws_markInt64SS_o_l0 (k : Nat) : Nat → Int → Int → (List (List Int)) → (Int → (List (List Int)) → Option (((Int × Unit) × ((List (List Int)) × Unit) × Unit))) → Option (((Int × Unit) × ((List (List Int)) × Unit) × Unit))
  | 0, _, _, _, _ => none
  | n + 1, k1, i5, q_2, e_0 => (if (decide (i5 < (List.length q_2 : Int))) = true then (if 0 ≤ i5 ∧ i5.toNat < List.length q_2 then (q_2[i5.toNat]?).bind fun y_3 => (laws_markInt64S_o_i_LI k i5.toNat k1 q_2).bind fun y_4 => laws_markInt64SS_o_l0 k n y_4.1.1 (w_i64 (i5 + 1)) y_4.2.1.1 e_0 else none) else e_0 k1 q_2)
def laws_markInt64SS_o (k : Nat) (k1 : Int) (q_1 : List (List Int)) : Option (((Int × Unit) × ((List (List Int)) × Unit) × Unit)) := laws_markInt64SS_o_l0 k k k1 0 q_1 (fun k_5 q_6 => some ((k_5, ()), (q_6, ()), ()))
def laws_markInt64SS_o_l0_h : Head := ⟨[(0, (.ref 1000000000 [])), (1, (.val (.int .i64))), (5, (.val (.int .i64)))], [(1000000000, 41, (.sl 2 (.int .i64)), false)], []⟩
def laws_markInt64SS_o_l0_x0 : Head := ⟨[(1, (.val (.int .i64)))], [(1000000000, 41, (.sl 2 (.int .i64)), false)], []⟩
def laws_markInt64SS_o_l0_F (k n : Nat) (x : laws_markInt64SS_o_l0_h.T) (kx : Nat → St → Option (((Int × Unit) × ((List (List Int)) × Unit) × Unit))) : Option (((Int × Unit) × ((List (List Int)) × Unit) × Unit)) := laws_markInt64SS_o_l0 k n x.1.2.1 x.1.2.2.1 x.2.1.1 (fun (k1 : Int) (q_6 : List (List Int)) => kx 0 (laws_markInt64SS_o_l0_x0.fill ((k1, ()), (q_6, ()), ())))
def laws_markInt64SS_o_O (k : Nat) : Oracles (((Int × Unit) × ((List (List Int)) × Unit) × Unit)) := ⟨fun n => bif Nat.beq n 2 then some (fun σ kx => laws_markInt64SS_o_l0_h.get σ fun x => laws_markInt64SS_o_l0_F k k x kx) else none, fun _ => none⟩
def laws_markInt64SS_o_hi : Head := ⟨[(0, (.ref 1000000000 [])), (1, (.val (.int .i64)))], [(1000000000, 41, (.sl 2 (.int .i64)), false)], []⟩
def laws_markInt64SS_o_ho : Head := ⟨[(0, (.val (.int .i64)))], [(1000000000, 41, (.sl 2 (.int .i64)), false)], []⟩
def oc_laws_markInt64SS_o (k : Nat) : OC := ⟨laws_markInt64SS_o_hi, laws_markInt64SS_o_ho, fun x => laws_markInt64SS_o k x.1.2.1 x.2.1.1⟩
theorem laws_markInt64SS_o_l0_ok (k : Nat) (pins : Nat → Value) (pinB : Nat → Nat) : LoopOK (mkEnv ti [] (lk [(17, 54, oc_laws_markInt64S_o_i_LI k)]) pins pinB) (laws_markInt64SS_o_O k) (rdO (mkEnv ti [] (lk [(17, 54, oc_laws_markInt64S_o_i_LI k)]) pins pinB) [.tmp 4] laws_markInt64SS_o_ho) ((loopsOf (codeOf Tryd.f28)).getD 0 .skip) (fun σ kx => laws_markInt64SS_o_l0_h.get σ fun x => laws_markInt64SS_o_l0_F k k x kx) := by
  refine ⟨laws_markInt64SS_o_l0_h, [(0, laws_markInt64SS_o_l0_x0)], fun n x kx => laws_markInt64SS_o_l0_F k n x kx, k, by kernel_rfl, by kernel_rfl, fun x kx => by kernel_rfl, ?_, fun σ kx => rfl⟩
  rintro n ⟨⟨⟨⟩, k1, i5, ⟨⟩⟩, ⟨q_2, ⟨⟩⟩, ⟨⟩⟩ kx
  kernel_rfl
theorem ok_laws_markInt64SS_o (k : Nat) : OpenOK Tryd.prog ti 28 (oc_laws_markInt64SS_o k) := by
  refine open_ok (tab := []) (l := [(17, 54, oc_laws_markInt64S_o_i_LI k)]) ti_ok ti_ht mix (List.forall_mem_nil _) (List.forall_mem_cons.2 ⟨ok_laws_markInt64S_o_i_LI k, (List.forall_mem_nil _)⟩) ⟨by kernel_rfl, by kernel_rfl, Tryd.f28, (codeOf Tryd.f28), [.tmp 4], (laws_markInt64SS_o_O k), by kernel_rfl, by kernel_rfl, by kernel_rfl, by kernel_rfl, Nat.le_of_ble_eq_true (by kernel_rfl), fun pins pinB => ⟨⟨by kernel_rfl, ?_, ?_⟩, ?_⟩⟩
  · refine loops_of (n := 1) (by kernel_rfl) fun i hi => ?_
    match i, hi with
    | 0, _ => exact loop_of (by kernel_rfl) (laws_markInt64SS_o_l0_ok k pins pinB)
    | n + 1, hi => omega
  · exact no_cuts (by kernel_rfl)
  · rintro ⟨⟨⟨⟩, k1, ⟨⟩⟩, ⟨q_1, ⟨⟩⟩, ⟨⟩⟩
    kernel_rfl
/- 10 loop.example/g01005/laws.markPoset (open) -/
def laws_markPoset_o (k : Nat) (a0a : Int) (k1 : Int) (q_1 : List (List Int)) : Option (((Int × Unit) × ((List (List Int)) × Unit) × Unit)) := (laws_markInt64SS_o k k1 q_1).bind fun y_2 => some ((y_2.1.1, ()), (y_2.2.1.1, ()), ())
def laws_markPoset_o_hi : Head := ⟨[(0, (.st (.pr (.val (.int .i64)) (.ref 1000000000 [])))), (1, (.val (.int .i64)))], [(1000000000, 41, (.sl 2 (.int .i64)), false)], []⟩
def laws_markPoset_o_ho : Head := ⟨[(0, (.val (.int .i64)))], [(1000000000, 41, (.sl 2 (.int .i64)), false)], []⟩
def oc_laws_markPoset_o (k : Nat) : OC := ⟨laws_markPoset_o_hi, laws_markPoset_o_ho, fun x => laws_markPoset_o k x.1.1.1 x.1.2.1 x.2.1.1⟩
theorem ok_laws_markPoset_o (k : Nat) : OpenOK Tryd.prog ti 10 (oc_laws_markPoset_o k) := by
  refine open_ok (tab := []) (l := [(8, 28, oc_laws_markInt64SS_o k)]) ti_ok ti_ht mix (List.forall_mem_nil _) (List.forall_mem_cons.2 ⟨ok_laws_markInt64SS_o k, (List.forall_mem_nil _)⟩) ⟨by kernel_rfl, by kernel_rfl, Tryd.f10, (codeOf Tryd.f10), [.tmp 4], (LOn (((Int × Unit) × ((List (List Int)) × Unit) × Unit))), by kernel_rfl, by kernel_rfl, by kernel_rfl, by kernel_rfl, Nat.le_of_ble_eq_true (by kernel_rfl), fun pins pinB => ⟨⟨by kernel_rfl, ?_, ?_⟩, ?_⟩⟩
  · exact no_loops (by kernel_rfl)
  · exact no_cuts (by kernel_rfl)
  · rintro ⟨⟨⟨a0a, ⟨⟩⟩, k1, ⟨⟩⟩, ⟨q_1, ⟨⟩⟩, ⟨⟩⟩
    kernel_rfl
/- 29 loop.example/g01005/laws.markText -/
def laws_markText_l0 (k : Nat) : Nat → Int → (List UInt8) → ((List UInt8) → Option (List UInt8)) → Option (List UInt8)
  | 0, _, _, _ => none
  | n + 1, k0, out3, e_0 => (if (decide (0 < k0)) = true then (if (to_S [(w_u8 ((w_i64 (48 + (Int.tmod k0 10)))))]).length + out3.length ≤ 9223372036854775807 then laws_markText_l0 k n (w_i64 (Int.tdiv k0 10)) ((to_S [(w_u8 ((w_i64 (48 + (Int.tmod k0 10)))))]) ++ out3) e_0 else none) else e_0 out3)
def laws_markText (k : Nat) (k0 : Int) : Option (List UInt8) := (if (decide (k0 ≤ 0)) = true then some [109, 48] else laws_markText_l0 k k k0 [] (fun out_1 => (if [109].length + out_1.length ≤ 9223372036854775807 then some ([109] ++ out_1) else none)))
def laws_markText_l0_h : Head := ⟨[(0, (.val (.int .i64))), (3, (.val .str))], [], []⟩
def laws_markText_l0_x0 : Head := ⟨[(3, (.val .str))], [], []⟩
def laws_markText_l0_F (k n : Nat) (x : laws_markText_l0_h.T) (kx : Nat → St → Option (List UInt8)) : Option (List UInt8) := laws_markText_l0 k n x.1.1 x.1.2.1 (fun (out3 : List UInt8) => kx 0 (laws_markText_l0_x0.fill ((out3, ()), (), ())))
def laws_markText_O (k : Nat) : Oracles (List UInt8) := ⟨fun n => bif Nat.beq n 4 then some (fun σ kx => laws_markText_l0_h.get σ fun x => laws_markText_l0_F k k x kx) else none, fun _ => none⟩
def fe_laws_markText (k : Nat) : FE := ⟨(.int .i64), 1, .str, fun x => laws_markText k x⟩
theorem laws_markText_l0_ok (k : Nat) : LoopOK (mkEnv ti [] (lk []) pins0 pinB0) (laws_markText_O k) (rdC (mkEnv ti [] (lk []) pins0 pinB0) [.tmp 2] .str) ((loopsOf (codeOf Tryd.f29)).getD 0 .skip) (fun σ kx => laws_markText_l0_h.get σ fun x => laws_markText_l0_F k k x kx) := by
  refine ⟨laws_markText_l0_h, [(0, laws_markText_l0_x0)], fun n x kx => laws_markText_l0_F k n x kx, k, by kernel_rfl, by kernel_rfl, fun x kx => by kernel_rfl, ?_, fun σ kx => rfl⟩
  rintro n ⟨⟨k0, out3, ⟨⟩⟩, ⟨⟩, ⟨⟩⟩ kx
  kernel_rfl
theorem ok_laws_markText (k : Nat) : FnOK Tryd.prog 29 (fe_laws_markText k) := by
  refine closed_ok (tab := []) (l := []) ti_ok ti_ht mix (List.forall_mem_nil _) (List.forall_mem_nil _) ⟨⟨Tryd.f29, (codeOf Tryd.f29), [.tmp 2], (laws_markText_O k), by kernel_rfl, by kernel_rfl, by kernel_rfl, by kernel_rfl, rfl, by decide, ⟨by kernel_rfl, ?_, ?_⟩, ?_⟩⟩
  · refine loops_of (n := 1) (by kernel_rfl) fun i hi => ?_
    match i, hi with
    | 0, _ => exact loop_of (by kernel_rfl) (laws_markText_l0_ok k)
    | n + 1, hi => omega
  · exact no_cuts (by kernel_rfl)
  · rintro k0
    kernel_rfl
/- 11 loop.example/g01005/laws.markStringS (open) -/
def laws_markStringS_o_l0 (k : Nat) : Nat → Int → Int → (List (List UInt8)) → (Int → (List (List UInt8)) → Option (((Int × Unit) × ((List (List UInt8)) × Unit) × Unit))) → Option (((Int × Unit) × ((List (List UInt8)) × Unit) × Unit))
  | 0, _, _, _, _ => none
  | n + 1, k1, i5, q_2, e_0 => (if (decide (i5 < (List.length q_2 : Int))) = true then (laws_markText k k1).bind fun r_3 => (if 0 ≤ i5 ∧ i5.toNat < List.length q_2 then (q_2[i5.toNat]?).bind fun y_4 => (q_2[i5.toNat]?).bind fun y_5 => laws_markStringS_o_l0 k n (w_i64 (k1 + 1)) (w_i64 (i5 + 1)) (q_2.set i5.toNat r_3) e_0 else none) else e_0 k1 q_2)
def laws_markStringS_o (k : Nat) (k1 : Int) (q_1 : List (List UInt8)) : Option (((Int × Unit) × ((List (List UInt8)) × Unit) × Unit)) := laws_markStringS_o_l0 k k k1 0 q_1 (fun k_6 q_7 => some ((k_6, ()), (q_7, ()), ()))
def laws_markStringS_o_l0_h : Head := ⟨[(0, (.ref 1000000000 [])), (1, (.val (.int .i64))), (5, (.val (.int .i64)))], [(1000000000, 9, .str, false)], []⟩
def laws_markStringS_o_l0_x0 : Head := ⟨[(1, (.val (.int .i64)))], [(1000000000, 9, .str, false)], []⟩
def laws_markStringS_o_l0_F (k n : Nat) (x : laws_markStringS_o_l0_h.T) (kx : Nat → St → Option (((Int × Unit) × ((List (List UInt8)) × Unit) × Unit))) : Option (((Int × Unit) × ((List (List UInt8)) × Unit) × Unit)) := laws_markStringS_o_l0 k n x.1.2.1 x.1.2.2.1 x.2.1.1 (fun (k1 : Int) (q_6 : List (List UInt8)) => kx 0 (laws_markStringS_o_l0_x0.fill ((k1, ()), (q_6, ()), ())))
def laws_markStringS_o_O (k : Nat) : Oracles (((Int × Unit) × ((List (List UInt8)) × Unit) × Unit)) := ⟨fun n => bif Nat.beq n 2 then some (fun σ kx => laws_markStringS_o_l0_h.get σ fun x => laws_markStringS_o_l0_F k k x kx) else none, fun _ => none⟩
def laws_markStringS_o_hi : Head := ⟨[(0, (.ref 1000000000 [])), (1, (.val (.int .i64)))], [(1000000000, 9, .str, false)], []⟩
def laws_markStringS_o_ho : Head := ⟨[(0, (.val (.int .i64)))], [(1000000000, 9, .str, false)], []⟩
def oc_laws_markStringS_o (k : Nat) : OC := ⟨laws_markStringS_o_hi, laws_markStringS_o_ho, fun x => laws_markStringS_o k x.1.2.1 x.2.1.1⟩
theorem laws_markStringS_o_l0_ok (k : Nat) (pins : Nat → Value) (pinB : Nat → Nat) : LoopOK (mkEnv ti [(29, fe_laws_markText k)] (lk []) pins pinB) (laws_markStringS_o_O k) (rdO (mkEnv ti [(29, fe_laws_markText k)] (lk []) pins pinB) [.tmp 4] laws_markStringS_o_ho) ((loopsOf (codeOf Tryd.f11)).getD 0 .skip) (fun σ kx => laws_markStringS_o_l0_h.get σ fun x => laws_markStringS_o_l0_F k k x kx) := by
  refine ⟨laws_markStringS_o_l0_h, [(0, laws_markStringS_o_l0_x0)], fun n x kx => laws_markStringS_o_l0_F k n x kx, k, by kernel_rfl, by kernel_rfl, fun x kx => by kernel_rfl, ?_, fun σ kx => rfl⟩
  rintro n ⟨⟨⟨⟩, k1, i5, ⟨⟩⟩, ⟨q_2, ⟨⟩⟩, ⟨⟩⟩ kx
  kernel_rfl
theorem ok_laws_markStringS_o (k : Nat) : OpenOK Tryd.prog ti 11 (oc_laws_markStringS_o k) := by
  refine open_ok (tab := [(29, fe_laws_markText k)]) (l := []) ti_ok ti_ht mix (List.forall_mem_cons.2 ⟨ok_laws_markText k, (List.forall_mem_nil _)⟩) (List.forall_mem_nil _) ⟨by kernel_rfl, by kernel_rfl, Tryd.f11, (codeOf Tryd.f11), [.tmp 4], (laws_markStringS_o_O k), by kernel_rfl, by kernel_rfl, by kernel_rfl, by kernel_rfl, Nat.le_of_ble_eq_true (by kernel_rfl), fun pins pinB => ⟨⟨by kernel_rfl, ?_, ?_⟩, ?_⟩⟩
  · refine loops_of (n := 1) (by kernel_rfl) fun i hi => ?_
    match i, hi with
    | 0, _ => exact loop_of (by kernel_rfl) (laws_markStringS_o_l0_ok k pins pinB)
    | n + 1, hi => omega
  · exact no_cuts (by kernel_rfl)
  · rintro ⟨⟨⟨⟩, k1, ⟨⟩⟩, ⟨q_1, ⟨⟩⟩, ⟨⟩⟩
    kernel_rfl
/- 12 loop.example/g01005/laws.heldStringS -/
def laws_heldStringS_l0 (k : Nat) : Nat → (List (List UInt8)) → Int → Int → (Int → Option Int) → Option Int
  | 0, _, _, _, _ => none
  | n + 1, a0, k1, i5, e_0 => (if (decide (i5 < (List.length a0 : Int))) = true then (if 0 ≤ i5 then (a0[i5.toNat]?).bind fun y_1 => (laws_markText k k1).bind fun r_2 => (if (!(decide (y_1 = r_2))) = true then some (-1) else laws_heldStringS_l0 k n a0 (w_i64 (k1 + 1)) (w_i64 (i5 + 1)) e_0) else none) else e_0 k1)
def laws_heldStringS (k : Nat) (a0 : List (List UInt8)) (k1 : Int) : Option Int := laws_heldStringS_l0 k k a0 k1 0 (fun k_3 => some k_3)
def laws_heldStringS_l0_h : Head := ⟨[(0, (.val (.sl 9 .str))), (1, (.val (.int .i64))), (5, (.val (.int .i64)))], [], []⟩
def laws_heldStringS_l0_x0 : Head := ⟨[(1, (.val (.int .i64)))], [], []⟩
def laws_heldStringS_l0_F (k n : Nat) (x : laws_heldStringS_l0_h.T) (kx : Nat → St → Option Int) : Option Int := laws_heldStringS_l0 k n x.1.1 x.1.2.1 x.1.2.2.1 (fun (k1 : Int) => kx 0 (laws_heldStringS_l0_x0.fill ((k1, ()), (), ())))
def laws_heldStringS_O (k : Nat) : Oracles Int := ⟨fun n => bif Nat.beq n 2 then some (fun σ kx => laws_heldStringS_l0_h.get σ fun x => laws_heldStringS_l0_F k k x kx) else none, fun _ => none⟩
def fe_laws_heldStringS (k : Nat) : FE := ⟨(.pr (.sl 9 .str) (.int .i64)), 1, (.int .i64), fun x => laws_heldStringS k x.1 x.2⟩
theorem laws_heldStringS_l0_ok (k : Nat) : LoopOK (mkEnv ti [(29, fe_laws_markText k)] (lk []) pins0 pinB0) (laws_heldStringS_O k) (rdC (mkEnv ti [(29, fe_laws_markText k)] (lk []) pins0 pinB0) [.tmp 4] (.int .i64)) ((loopsOf (codeOf Tryd.f12)).getD 0 .skip) (fun σ kx => laws_heldStringS_l0_h.get σ fun x => laws_heldStringS_l0_F k k x kx) := by
  refine ⟨laws_heldStringS_l0_h, [(0, laws_heldStringS_l0_x0)], fun n x kx => laws_heldStringS_l0_F k n x kx, k, by kernel_rfl, by kernel_rfl, fun x kx => by kernel_rfl, ?_, fun σ kx => rfl⟩
  rintro n ⟨⟨a0, k1, i5, ⟨⟩⟩, ⟨⟩, ⟨⟩⟩ kx
  kernel_rfl
theorem ok_laws_heldStringS (k : Nat) : FnOK Tryd.prog 12 (fe_laws_heldStringS k) := by
  refine closed_ok (tab := [(29, fe_laws_markText k)]) (l := []) ti_ok ti_ht mix (List.forall_mem_cons.2 ⟨ok_laws_markText k, (List.forall_mem_nil _)⟩) (List.forall_mem_nil _) ⟨⟨Tryd.f12, (codeOf Tryd.f12), [.tmp 4], (laws_heldStringS_O k), by kernel_rfl, by kernel_rfl, by kernel_rfl, by kernel_rfl, rfl, by decide, ⟨by kernel_rfl, ?_, ?_⟩, ?_⟩⟩
  · refine loops_of (n := 1) (by kernel_rfl) fun i hi => ?_
    match i, hi with
    | 0, _ => exact loop_of (by kernel_rfl) (laws_heldStringS_l0_ok k)
    | n + 1, hi => omega
  · exact no_cuts (by kernel_rfl)
  · rintro ⟨a0, k1⟩
    kernel_rfl
/- 3 loop.example/g01005/laws.FnExactPosetPicture -/
def laws_FnExactPosetPicture (k : Nat) (aP0 : Int × List (List Int)) : Option Bool := (laws_szPoset k aP0 1048576).bind fun r_1 => (if (decide (r_1 < 0)) = true then some true else (laws_toPoset k aP0).bind fun r_2 => (spec_PosetPicture k (r_2.1, r_2.2)).bind fun r_3 => (laws_toPoset k aP0).bind fun r_4 => (impl_PosetPicture k (r_4.1, r_4.2)).bind fun r_5 => (laws_eqStringS k r_5.1 r_3.1).bind fun r_6 => (if (!r_6) = true then some false else (if (!(decide (r_5.2 = r_3.2))) = true then some false else (laws_toPoset k aP0).bind fun r_7 => (laws_eqPoset k (r_4.1, r_4.2) (r_7.1, r_7.2)).bind fun r_8 => (if (!r_8) = true then some false else (laws_markPoset_o k r_4.1 1 r_4.2).bind fun y_9 => (if (decide (y_9.1.1 < 0)) = true then some false else (laws_eqStringS k r_5.1 r_3.1).bind fun r_10 => (if (!r_10) = true then some false else (if (!(decide (r_5.2 = r_3.2))) = true then some false else (laws_markStringS_o k 1 r_5.1).bind fun y_11 => (laws_heldStringS k y_11.2.1.1 1).bind fun r_12 => (if (decide (r_12 < 0)) = true then some false else (if (!(decide (r_12 = y_11.1.1))) = true then some false else (laws_toPoset k aP0).bind fun r_13 => (impl_PosetPicture k (r_13.1, r_13.2)).bind fun r_14 => (laws_eqStringS k r_14.1 r_3.1).bind fun r_15 => (if (!r_15) = true then some false else (if (!(decide (r_14.2 = r_3.2))) = true then some false else (laws_heldStringS k y_11.2.1.1 1).bind fun r_16 => (if (decide (r_16 < 0)) = true then some false else (if (!(decide (r_16 = y_11.1.1))) = true then some false else some true)))))))))))))
def fe_laws_FnExactPosetPicture (k : Nat) : FE := ⟨(.st (.pr (.int .i64) (.sl 41 (.sl 2 (.int .i64))))), 1, .bool, fun x => laws_FnExactPosetPicture k x⟩
theorem ok_laws_FnExactPosetPicture (k : Nat) : FnOK Tryd.prog 3 (fe_laws_FnExactPosetPicture k) := by
  refine closed_ok (tab := [(4, fe_laws_szPoset k), (6, fe_laws_toPoset k), (5, fe_spec_PosetPicture k), (7, fe_impl_PosetPicture k), (8, fe_laws_eqStringS k), (9, fe_laws_eqPoset k), (12, fe_laws_heldStringS k)]) (l := [(48, 10, oc_laws_markPoset_o k), (64, 11, oc_laws_markStringS_o k)]) ti_ok ti_ht mix (List.forall_mem_cons.2 ⟨ok_laws_szPoset k, (List.forall_mem_cons.2 ⟨ok_laws_toPoset k, (List.forall_mem_cons.2 ⟨ok_spec_PosetPicture k, (List.forall_mem_cons.2 ⟨ok_impl_PosetPicture k, (List.forall_mem_cons.2 ⟨ok_laws_eqStringS k, (List.forall_mem_cons.2 ⟨ok_laws_eqPoset k, (List.forall_mem_cons.2 ⟨ok_laws_heldStringS k, (List.forall_mem_nil _)⟩)⟩)⟩)⟩)⟩)⟩)⟩) (List.forall_mem_cons.2 ⟨ok_laws_markPoset_o k, (List.forall_mem_cons.2 ⟨ok_laws_markStringS_o k, (List.forall_mem_nil _)⟩)⟩) ⟨⟨Tryd.f3, (codeOf Tryd.f3), [.tmp 2], (LOn Bool), by kernel_rfl, by kernel_rfl, by kernel_rfl, by kernel_rfl, rfl, by decide, ⟨by kernel_rfl, ?_, ?_⟩, ?_⟩⟩
  · exact no_loops (by kernel_rfl)
  · exact no_cuts (by kernel_rfl)
  · rintro aP0
    kernel_rfl
end
end Go.Proofs.YtpliblemabkikaaDoor.Ev
