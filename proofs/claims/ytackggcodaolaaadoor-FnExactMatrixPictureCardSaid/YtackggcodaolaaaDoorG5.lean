/- Functions of the program, as plain ones. No conditions. -/
import Derived.Test.YtackggcodaolaaaDoorG4
import Derived.KernelRfl
set_option linter.unusedVariables false
set_option maxRecDepth 100000
namespace Go.Proofs.YtackggcodaolaaaDoor.Ev
open Go.RowKit
noncomputable section
/- 47 loop.example/g01005/laws.eqInt64S -/
def laws_eqInt64S_l0 (k : Nat) : Nat → (List Int) → (List Int) → Int → (Option Bool) → Option Bool
  | 0, _, _, _, _ => none
  | n + 1, a0, b1, i5, e_0 => (if (decide (i5 < (List.length a0 : Int))) = true then (if 0 ≤ i5 then (a0[i5.toNat]?).bind fun y_1 => (if 0 ≤ i5 then (b1[i5.toNat]?).bind fun y_2 => (if (!(decide (y_1 = y_2))) = true then some false else laws_eqInt64S_l0 k n a0 b1 (w_i64 (i5 + 1)) e_0) else none) else none) else e_0)
def laws_eqInt64S (k : Nat) (a0 : List Int) (b1 : List Int) : Option Bool := (if (!(decide ((List.length a0 : Int) = (List.length b1 : Int)))) = true then some false else laws_eqInt64S_l0 k k a0 b1 0 (some true))
def laws_eqInt64S_l0_h : Head := ⟨[(0, (.val (.sl 2 (.int .i64)))), (1, (.val (.sl 2 (.int .i64)))), (5, (.val (.int .i64)))], [], []⟩
def laws_eqInt64S_l0_x0 : Head := ⟨[], [], []⟩
def laws_eqInt64S_l0_F (k n : Nat) (x : laws_eqInt64S_l0_h.T) (kx : Nat → St → Option Bool) : Option Bool := laws_eqInt64S_l0 k n x.1.1 x.1.2.1 x.1.2.2.1 (kx 0 (laws_eqInt64S_l0_x0.fill ((), (), ())))
def laws_eqInt64S_O (k : Nat) : Oracles Bool := ⟨fun n => bif Nat.beq n 4 then some (fun σ kx => laws_eqInt64S_l0_h.get σ fun x => laws_eqInt64S_l0_F k k x kx) else none, fun _ => none⟩
def fe_laws_eqInt64S (k : Nat) : FE := ⟨(.pr (.sl 2 (.int .i64)) (.sl 2 (.int .i64))), 1, .bool, fun x => laws_eqInt64S k x.1 x.2⟩
theorem laws_eqInt64S_l0_ok (k : Nat) : LoopOK (mkEnv ti [] (lk []) pins0 pinB0) (laws_eqInt64S_O k) (rdC (mkEnv ti [] (lk []) pins0 pinB0) [.tmp 4] .bool) ((loopsOf (codeOf Tryd.f47)).getD 0 .skip) (fun σ kx => laws_eqInt64S_l0_h.get σ fun x => laws_eqInt64S_l0_F k k x kx) := by
  refine ⟨laws_eqInt64S_l0_h, [(0, laws_eqInt64S_l0_x0)], fun n x kx => laws_eqInt64S_l0_F k n x kx, k, by kernel_rfl, by kernel_rfl, fun x kx => by kernel_rfl, ?_, fun σ kx => rfl⟩
  rintro n ⟨⟨a0, b1, i5, ⟨⟩⟩, ⟨⟩, ⟨⟩⟩ kx
  kernel_rfl
theorem ok_laws_eqInt64S (k : Nat) : FnOK Tryd.prog 47 (fe_laws_eqInt64S k) := by
  refine closed_ok (tab := []) (l := []) ti_ok ti_ht mix (List.forall_mem_nil _) (List.forall_mem_nil _) ⟨⟨Tryd.f47, (codeOf Tryd.f47), [.tmp 4], (laws_eqInt64S_O k), by kernel_rfl, by kernel_rfl, by kernel_rfl, by kernel_rfl, rfl, by decide, ⟨by kernel_rfl, ?_, ?_⟩, ?_⟩⟩
  · refine loops_of (n := 1) (by kernel_rfl) fun i hi => ?_
    match i, hi with
    | 0, _ => exact loop_of (by kernel_rfl) (laws_eqInt64S_l0_ok k)
    | n + 1, hi => omega
  · exact no_cuts (by kernel_rfl)
  · rintro ⟨a0, b1⟩
    kernel_rfl
/- 19 loop.example/g01005/laws.eqMatrix -/
def laws_eqMatrix (k : Nat) (a0 : Int × Int × Int × List Int) (b1 : Int × Int × Int × List Int) : Option Bool := (if (!(decide (a0.1 = b1.1))) = true then some false else (if (!(decide (a0.2.1 = b1.2.1))) = true then some false else (if (!(decide (a0.2.2.1 = b1.2.2.1))) = true then some false else (laws_eqInt64S k a0.2.2.2 b1.2.2.2).bind fun r_1 => (if (!r_1) = true then some false else some true))))
def fe_laws_eqMatrix (k : Nat) : FE := ⟨(.pr (.st (.pr (.int .i64) (.pr (.int .i64) (.pr (.int .i64) (.sl 2 (.int .i64)))))) (.st (.pr (.int .i64) (.pr (.int .i64) (.pr (.int .i64) (.sl 2 (.int .i64))))))), 1, .bool, fun x => laws_eqMatrix k x.1 x.2⟩
theorem ok_laws_eqMatrix (k : Nat) : FnOK Tryd.prog 19 (fe_laws_eqMatrix k) := by
  refine closed_ok (tab := [(47, fe_laws_eqInt64S k)]) (l := []) ti_ok ti_ht mix (List.forall_mem_cons.2 ⟨ok_laws_eqInt64S k, (List.forall_mem_nil _)⟩) (List.forall_mem_nil _) ⟨⟨Tryd.f19, (codeOf Tryd.f19), [.tmp 4], (LOn Bool), by kernel_rfl, by kernel_rfl, by kernel_rfl, by kernel_rfl, rfl, by decide, ⟨by kernel_rfl, ?_, ?_⟩, ?_⟩⟩
  · exact no_loops (by kernel_rfl)
  · exact no_cuts (by kernel_rfl)
  · rintro ⟨a0, b1⟩
    kernel_rfl
/- 48 loop.example/g01005/laws.markInt64S (open) -/
def laws_markInt64S_o_l0 (k : Nat) : Nat → Int → Int → (List Int) → (Int → (List Int) → Option (((Int × Unit) × ((List Int) × Unit) × Unit))) → Option (((Int × Unit) × ((List Int) × Unit) × Unit))
  | 0, _, _, _, _ => none
  | n + 1, k1, i5, q_2, e_0 => (if (decide (i5 < (List.length q_2 : Int))) = true then (if 0 ≤ i5 ∧ i5.toNat < List.length q_2 then (q_2[i5.toNat]?).bind fun y_3 => (q_2[i5.toNat]?).bind fun y_4 => laws_markInt64S_o_l0 k n (w_i64 (k1 + 1)) (w_i64 (i5 + 1)) (q_2.set i5.toNat k1) e_0 else none) else e_0 k1 q_2)
def laws_markInt64S_o (k : Nat) (k1 : Int) (q_1 : List Int) : Option (((Int × Unit) × ((List Int) × Unit) × Unit)) := laws_markInt64S_o_l0 k k k1 0 q_1 (fun k_5 q_6 => some ((k_5, ()), (q_6, ()), ()))
def laws_markInt64S_o_l0_h : Head := ⟨[(0, (.ref 1000000000 [])), (1, (.val (.int .i64))), (5, (.val (.int .i64)))], [(1000000000, 2, (.int .i64), false)], []⟩
def laws_markInt64S_o_l0_x0 : Head := ⟨[(1, (.val (.int .i64)))], [(1000000000, 2, (.int .i64), false)], []⟩
def laws_markInt64S_o_l0_F (k n : Nat) (x : laws_markInt64S_o_l0_h.T) (kx : Nat → St → Option (((Int × Unit) × ((List Int) × Unit) × Unit))) : Option (((Int × Unit) × ((List Int) × Unit) × Unit)) := laws_markInt64S_o_l0 k n x.1.2.1 x.1.2.2.1 x.2.1.1 (fun (k1 : Int) (q_5 : List Int) => kx 0 (laws_markInt64S_o_l0_x0.fill ((k1, ()), (q_5, ()), ())))
def laws_markInt64S_o_O (k : Nat) : Oracles (((Int × Unit) × ((List Int) × Unit) × Unit)) := ⟨fun n => bif Nat.beq n 2 then some (fun σ kx => laws_markInt64S_o_l0_h.get σ fun x => laws_markInt64S_o_l0_F k k x kx) else none, fun _ => none⟩
def laws_markInt64S_o_hi : Head := ⟨[(0, (.ref 1000000000 [])), (1, (.val (.int .i64)))], [(1000000000, 2, (.int .i64), false)], []⟩
def laws_markInt64S_o_ho : Head := ⟨[(0, (.val (.int .i64)))], [(1000000000, 2, (.int .i64), false)], []⟩
def oc_laws_markInt64S_o (k : Nat) : OC := ⟨laws_markInt64S_o_hi, laws_markInt64S_o_ho, fun x => laws_markInt64S_o k x.1.2.1 x.2.1.1⟩
theorem laws_markInt64S_o_l0_ok (k : Nat) (pins : Nat → Value) (pinB : Nat → Nat) : LoopOK (mkEnv ti [] (lk []) pins pinB) (laws_markInt64S_o_O k) (rdO (mkEnv ti [] (lk []) pins pinB) [.tmp 4] laws_markInt64S_o_ho) ((loopsOf (codeOf Tryd.f48)).getD 0 .skip) (fun σ kx => laws_markInt64S_o_l0_h.get σ fun x => laws_markInt64S_o_l0_F k k x kx) := by
  refine ⟨laws_markInt64S_o_l0_h, [(0, laws_markInt64S_o_l0_x0)], fun n x kx => laws_markInt64S_o_l0_F k n x kx, k, by kernel_rfl, by kernel_rfl, fun x kx => by kernel_rfl, ?_, fun σ kx => rfl⟩
  rintro n ⟨⟨⟨⟩, k1, i5, ⟨⟩⟩, ⟨q_2, ⟨⟩⟩, ⟨⟩⟩ kx
  kernel_rfl
theorem ok_laws_markInt64S_o (k : Nat) : OpenOK Tryd.prog ti 48 (oc_laws_markInt64S_o k) := by
  refine open_ok (tab := []) (l := []) ti_ok ti_ht mix (List.forall_mem_nil _) (List.forall_mem_nil _) ⟨by kernel_rfl, by kernel_rfl, Tryd.f48, (codeOf Tryd.f48), [.tmp 4], (laws_markInt64S_o_O k), by kernel_rfl, by kernel_rfl, by kernel_rfl, by kernel_rfl, Nat.le_of_ble_eq_true (by kernel_rfl), fun pins pinB => ⟨⟨by kernel_rfl, ?_, ?_⟩, ?_⟩⟩
  · refine loops_of (n := 1) (by kernel_rfl) fun i hi => ?_
    match i, hi with
    | 0, _ => exact loop_of (by kernel_rfl) (laws_markInt64S_o_l0_ok k pins pinB)
    | n + 1, hi => omega
  · exact no_cuts (by kernel_rfl)
  · rintro ⟨⟨⟨⟩, k1, ⟨⟩⟩, ⟨q_1, ⟨⟩⟩, ⟨⟩⟩
    kernel_rfl
/- 20 loop.example/g01005/laws.markMatrix (open) -/
def laws_markMatrix_o (k : Nat) (a0a : Int) (a0ba : Int) (a0bba : Int) (k1 : Int) (q_1 : List Int) : Option (((Int × Unit) × ((List Int) × Unit) × Unit)) := (laws_markInt64S_o k k1 q_1).bind fun y_2 => some ((y_2.1.1, ()), (y_2.2.1.1, ()), ())
def laws_markMatrix_o_hi : Head := ⟨[(0, (.st (.pr (.val (.int .i64)) (.pr (.val (.int .i64)) (.pr (.val (.int .i64)) (.ref 1000000000 [])))))), (1, (.val (.int .i64)))], [(1000000000, 2, (.int .i64), false)], []⟩
def laws_markMatrix_o_ho : Head := ⟨[(0, (.val (.int .i64)))], [(1000000000, 2, (.int .i64), false)], []⟩
def oc_laws_markMatrix_o (k : Nat) : OC := ⟨laws_markMatrix_o_hi, laws_markMatrix_o_ho, fun x => laws_markMatrix_o k x.1.1.1 x.1.1.2.1 x.1.1.2.2.1 x.1.2.1 x.2.1.1⟩
theorem ok_laws_markMatrix_o (k : Nat) : OpenOK Tryd.prog ti 20 (oc_laws_markMatrix_o k) := by
  refine open_ok (tab := []) (l := [(8, 48, oc_laws_markInt64S_o k)]) ti_ok ti_ht mix (List.forall_mem_nil _) (List.forall_mem_cons.2 ⟨ok_laws_markInt64S_o k, (List.forall_mem_nil _)⟩) ⟨by kernel_rfl, by kernel_rfl, Tryd.f20, (codeOf Tryd.f20), [.tmp 4], (LOn (((Int × Unit) × ((List Int) × Unit) × Unit))), by kernel_rfl, by kernel_rfl, by kernel_rfl, by kernel_rfl, Nat.le_of_ble_eq_true (by kernel_rfl), fun pins pinB => ⟨⟨by kernel_rfl, ?_, ?_⟩, ?_⟩⟩
  · exact no_loops (by kernel_rfl)
  · exact no_cuts (by kernel_rfl)
  · rintro ⟨⟨⟨a0a, ⟨a0ba, ⟨a0bba, ⟨⟩⟩⟩⟩, k1, ⟨⟩⟩, ⟨q_1, ⟨⟩⟩, ⟨⟩⟩
    kernel_rfl
/- 4 loop.example/g01005/laws.FnExactMatrixPicture -/
def laws_FnExactMatrixPicture (k : Nat) (aM0 : Int × Int × Int × List Int) : Option Bool := (laws_szMatrix aM0 1048576).bind fun r_1 => (if (decide (r_1 < 0)) = true then some true else (laws_toMatrix k aM0).bind fun r_2 => (spec_MatrixPicture k (r_2.1, (r_2.2.1, (r_2.2.2.1, r_2.2.2.2)))).bind fun r_3 => (laws_toMatrix k aM0).bind fun r_4 => (impl_MatrixPicture k (r_4.1, (r_4.2.1, (r_4.2.2.1, r_4.2.2.2)))).bind fun r_5 => (laws_eqStringS k r_5.1 r_3.1).bind fun r_6 => (if (!r_6) = true then some false else (if (!(decide (r_5.2 = r_3.2))) = true then some false else (laws_toMatrix k aM0).bind fun r_7 => (laws_eqMatrix k (r_4.1, (r_4.2.1, (r_4.2.2.1, r_4.2.2.2))) (r_7.1, (r_7.2.1, (r_7.2.2.1, r_7.2.2.2)))).bind fun r_8 => (if (!r_8) = true then some false else (laws_markMatrix_o k r_4.1 r_4.2.1 r_4.2.2.1 1 r_4.2.2.2).bind fun y_9 => (if (decide (y_9.1.1 < 0)) = true then some false else (laws_eqStringS k r_5.1 r_3.1).bind fun r_10 => (if (!r_10) = true then some false else (if (!(decide (r_5.2 = r_3.2))) = true then some false else (laws_markStringS_o k 1 r_5.1).bind fun y_11 => (laws_heldStringS k y_11.2.1.1 1).bind fun r_12 => (if (decide (r_12 < 0)) = true then some false else (if (!(decide (r_12 = y_11.1.1))) = true then some false else (laws_toMatrix k aM0).bind fun r_13 => (impl_MatrixPicture k (r_13.1, (r_13.2.1, (r_13.2.2.1, r_13.2.2.2)))).bind fun r_14 => (laws_eqStringS k r_14.1 r_3.1).bind fun r_15 => (if (!r_15) = true then some false else (if (!(decide (r_14.2 = r_3.2))) = true then some false else (laws_heldStringS k y_11.2.1.1 1).bind fun r_16 => (if (decide (r_16 < 0)) = true then some false else (if (!(decide (r_16 = y_11.1.1))) = true then some false else some true)))))))))))))
def fe_laws_FnExactMatrixPicture (k : Nat) : FE := ⟨(.st (.pr (.int .i64) (.pr (.int .i64) (.pr (.int .i64) (.sl 2 (.int .i64)))))), 1, .bool, fun x => laws_FnExactMatrixPicture k x⟩
theorem ok_laws_FnExactMatrixPicture (k : Nat) : FnOK Tryd.prog 4 (fe_laws_FnExactMatrixPicture k) := by
  refine closed_ok (tab := [(15, fe_laws_szMatrix), (17, fe_laws_toMatrix k), (16, fe_spec_MatrixPicture k), (18, fe_impl_MatrixPicture k), (10, fe_laws_eqStringS k), (19, fe_laws_eqMatrix k), (14, fe_laws_heldStringS k)]) (l := [(48, 20, oc_laws_markMatrix_o k), (64, 13, oc_laws_markStringS_o k)]) ti_ok ti_ht mix (List.forall_mem_cons.2 ⟨ok_laws_szMatrix, (List.forall_mem_cons.2 ⟨ok_laws_toMatrix k, (List.forall_mem_cons.2 ⟨ok_spec_MatrixPicture k, (List.forall_mem_cons.2 ⟨ok_impl_MatrixPicture k, (List.forall_mem_cons.2 ⟨ok_laws_eqStringS k, (List.forall_mem_cons.2 ⟨ok_laws_eqMatrix k, (List.forall_mem_cons.2 ⟨ok_laws_heldStringS k, (List.forall_mem_nil _)⟩)⟩)⟩)⟩)⟩)⟩)⟩) (List.forall_mem_cons.2 ⟨ok_laws_markMatrix_o k, (List.forall_mem_cons.2 ⟨ok_laws_markStringS_o k, (List.forall_mem_nil _)⟩)⟩) ⟨⟨Tryd.f4, (codeOf Tryd.f4), [.tmp 2], (LOn Bool), by kernel_rfl, by kernel_rfl, by kernel_rfl, by kernel_rfl, rfl, by decide, ⟨by kernel_rfl, ?_, ?_⟩, ?_⟩⟩
  · exact no_loops (by kernel_rfl)
  · exact no_cuts (by kernel_rfl)
  · rintro aM0
    kernel_rfl
end
end Go.Proofs.YtackggcodaolaaaDoor.Ev
