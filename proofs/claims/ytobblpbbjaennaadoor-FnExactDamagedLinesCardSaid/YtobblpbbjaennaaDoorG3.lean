/- Functions of the program, as plain ones. No conditions. -/
import Derived.Test.YtobblpbbjaennaaDoorG2
import Derived.KernelRfl
set_option linter.unusedVariables false
set_option maxRecDepth 100000
namespace Go.Proofs.YtobblpbbjaennaaDoor.Ev
open Go.RowKit
noncomputable section
/- 7 loop.example/g01005/laws.markInt64S (open) -/
def laws_markInt64S_o_l0 (k : Nat) : Nat → Int → Int → (List Int) → (Int → (List Int) → Option (((Int × Unit) × ((List Int) × Unit) × Unit))) → Option (((Int × Unit) × ((List Int) × Unit) × Unit))
  | 0, _, _, _, _ => none
  | n + 1, k1, i5, q_2, e_0 => (if (decide (i5 < (List.length q_2 : Int))) = true then (if 0 ≤ i5 ∧ i5.toNat < List.length q_2 then (q_2[i5.toNat]?).bind fun y_3 => (q_2[i5.toNat]?).bind fun y_4 => laws_markInt64S_o_l0 k n (w_i64 (k1 + 1)) (w_i64 (i5 + 1)) (q_2.set i5.toNat k1) e_0 else none) else e_0 k1 q_2)
def laws_markInt64S_o (k : Nat) (k1 : Int) (q_1 : List Int) : Option (((Int × Unit) × ((List Int) × Unit) × Unit)) := laws_markInt64S_o_l0 k k k1 0 q_1 (fun k_5 q_6 => some ((k_5, ()), (q_6, ()), ()))
def laws_markInt64S_o_l0_h : Head := ⟨[(0, (.ref 1000000000 [])), (1, (.val (.int .i64))), (5, (.val (.int .i64)))], [(1000000000, 2, (.int .i64), false)], []⟩
def laws_markInt64S_o_l0_x0 : Head := ⟨[(1, (.val (.int .i64)))], [(1000000000, 2, (.int .i64), false)], []⟩
def laws_markInt64S_o_l0_F (k n : Nat) (x : laws_markInt64S_o_l0_h.T) (kx : Nat → St → Option (((Int × Unit) × ((List Int) × Unit) × Unit))) : Option (((Int × Unit) × ((List Int) × Unit) × Unit)) := laws_markInt64S_o_l0 k n x.1.2.1 x.1.2.2.1 x.2.1.1 (fun (k1 : Int) (q_5 : List Int) => kx 0 (laws_markInt64S_o_l0_x0.fill ((k1, ()), (q_5, ()), ())))
def laws_markInt64S_o_O (k : Nat) : Oracles (((Int × Unit) × ((List Int) × Unit) × Unit)) := ⟨fun n => bif Nat.beq n 2 then some (fun σ kx => laws_markInt64S_o_l0_h.get σ fun x => laws_markInt64S_o_l0_F k k x kx) else none, fun _ => none⟩
def laws_markInt64S_o_hi : Head := ⟨[(0, (.ref 1000000000 [])), (1, (.val (.int .i64)))], [(1000000000, 2, (.int .i64), false)], []⟩
def laws_markInt64S_o_ho : Head := ⟨[(0, (.val (.int .i64)))], [(1000000000, 2, (.int .i64), false)], []⟩
def oc_laws_markInt64S_o (k : Nat) : OC := ⟨laws_markInt64S_o_hi, laws_markInt64S_o_ho, fun x => laws_markInt64S_o k x.1.2.1 x.2.1.1⟩
theorem laws_markInt64S_o_l0_ok (k : Nat) (pins : Nat → Value) (pinB : Nat → Nat) : LoopOK (mkEnv ti [] (lk []) pins pinB) (laws_markInt64S_o_O k) (rdO (mkEnv ti [] (lk []) pins pinB) [.tmp 4] laws_markInt64S_o_ho) ((loopsOf (codeOf Tryd.f7)).getD 0 .skip) (fun σ kx => laws_markInt64S_o_l0_h.get σ fun x => laws_markInt64S_o_l0_F k k x kx) := by
  refine ⟨laws_markInt64S_o_l0_h, [(0, laws_markInt64S_o_l0_x0)], fun n x kx => laws_markInt64S_o_l0_F k n x kx, k, by kernel_rfl, by kernel_rfl, fun x kx => by kernel_rfl, ?_, fun σ kx => rfl⟩
  rintro n ⟨⟨⟨⟩, k1, i5, ⟨⟩⟩, ⟨q_2, ⟨⟩⟩, ⟨⟩⟩ kx
  kernel_rfl
theorem ok_laws_markInt64S_o (k : Nat) : OpenOK Tryd.prog ti 7 (oc_laws_markInt64S_o k) := by
  refine open_ok (tab := []) (l := []) ti_ok ti_ht mix (List.forall_mem_nil _) (List.forall_mem_nil _) ⟨by kernel_rfl, by kernel_rfl, Tryd.f7, (codeOf Tryd.f7), [.tmp 4], (laws_markInt64S_o_O k), by kernel_rfl, by kernel_rfl, by kernel_rfl, by kernel_rfl, Nat.le_of_ble_eq_true (by kernel_rfl), fun pins pinB => ⟨⟨by kernel_rfl, ?_, ?_⟩, ?_⟩⟩
  · refine loops_of (n := 1) (by kernel_rfl) fun i hi => ?_
    match i, hi with
    | 0, _ => exact loop_of (by kernel_rfl) (laws_markInt64S_o_l0_ok k pins pinB)
    | n + 1, hi => omega
  · exact no_cuts (by kernel_rfl)
  · rintro ⟨⟨⟨⟩, k1, ⟨⟩⟩, ⟨q_1, ⟨⟩⟩, ⟨⟩⟩
    kernel_rfl
/- 8 loop.example/g01005/laws.heldInt64S -/
def laws_heldInt64S_l0 (k : Nat) : Nat → (List Int) → Int → Int → (Int → Option Int) → Option Int
  | 0, _, _, _, _ => none
  | n + 1, a0, k1, i5, e_0 => (if (decide (i5 < (List.length a0 : Int))) = true then (if 0 ≤ i5 then (a0[i5.toNat]?).bind fun y_1 => (if (!(decide (y_1 = k1))) = true then some (-1) else laws_heldInt64S_l0 k n a0 (w_i64 (k1 + 1)) (w_i64 (i5 + 1)) e_0) else none) else e_0 k1)
def laws_heldInt64S (k : Nat) (a0 : List Int) (k1 : Int) : Option Int := laws_heldInt64S_l0 k k a0 k1 0 (fun k_2 => some k_2)
def laws_heldInt64S_l0_h : Head := ⟨[(0, (.val (.sl 2 (.int .i64)))), (1, (.val (.int .i64))), (5, (.val (.int .i64)))], [], []⟩
def laws_heldInt64S_l0_x0 : Head := ⟨[(1, (.val (.int .i64)))], [], []⟩
def laws_heldInt64S_l0_F (k n : Nat) (x : laws_heldInt64S_l0_h.T) (kx : Nat → St → Option Int) : Option Int := laws_heldInt64S_l0 k n x.1.1 x.1.2.1 x.1.2.2.1 (fun (k1 : Int) => kx 0 (laws_heldInt64S_l0_x0.fill ((k1, ()), (), ())))
def laws_heldInt64S_O (k : Nat) : Oracles Int := ⟨fun n => bif Nat.beq n 2 then some (fun σ kx => laws_heldInt64S_l0_h.get σ fun x => laws_heldInt64S_l0_F k k x kx) else none, fun _ => none⟩
def fe_laws_heldInt64S (k : Nat) : FE := ⟨(.pr (.sl 2 (.int .i64)) (.int .i64)), 1, (.int .i64), fun x => laws_heldInt64S k x.1 x.2⟩
theorem laws_heldInt64S_l0_ok (k : Nat) : LoopOK (mkEnv ti [] (lk []) pins0 pinB0) (laws_heldInt64S_O k) (rdC (mkEnv ti [] (lk []) pins0 pinB0) [.tmp 4] (.int .i64)) ((loopsOf (codeOf Tryd.f8)).getD 0 .skip) (fun σ kx => laws_heldInt64S_l0_h.get σ fun x => laws_heldInt64S_l0_F k k x kx) := by
  refine ⟨laws_heldInt64S_l0_h, [(0, laws_heldInt64S_l0_x0)], fun n x kx => laws_heldInt64S_l0_F k n x kx, k, by kernel_rfl, by kernel_rfl, fun x kx => by kernel_rfl, ?_, fun σ kx => rfl⟩
  rintro n ⟨⟨a0, k1, i5, ⟨⟩⟩, ⟨⟩, ⟨⟩⟩ kx
  kernel_rfl
theorem ok_laws_heldInt64S (k : Nat) : FnOK Tryd.prog 8 (fe_laws_heldInt64S k) := by
  refine closed_ok (tab := []) (l := []) ti_ok ti_ht mix (List.forall_mem_nil _) (List.forall_mem_nil _) ⟨⟨Tryd.f8, (codeOf Tryd.f8), [.tmp 4], (laws_heldInt64S_O k), by kernel_rfl, by kernel_rfl, by kernel_rfl, by kernel_rfl, rfl, by decide, ⟨by kernel_rfl, ?_, ?_⟩, ?_⟩⟩
  · refine loops_of (n := 1) (by kernel_rfl) fun i hi => ?_
    match i, hi with
    | 0, _ => exact loop_of (by kernel_rfl) (laws_heldInt64S_l0_ok k)
    | n + 1, hi => omega
  · exact no_cuts (by kernel_rfl)
  · rintro ⟨a0, k1⟩
    kernel_rfl
/- 3 loop.example/g01005/laws.FnExactDamagedLines -/
def laws_FnExactDamagedLines (k : Nat) (aS0 : List UInt8) : Option Bool := (if (decide (1048576 < (List.length aS0 : Int))) = true then some true else (spec_DamagedLines k aS0).bind fun r_1 => (impl_DamagedLines k aS0).bind fun r_2 => (laws_eqInt64S k r_2 r_1).bind fun r_3 => (if (!r_3) = true then some false else (laws_markInt64S_o k 1 r_2).bind fun y_4 => (laws_heldInt64S k y_4.2.1.1 1).bind fun r_5 => (if (decide (r_5 < 0)) = true then some false else (if (!(decide (r_5 = y_4.1.1))) = true then some false else (impl_DamagedLines k aS0).bind fun r_6 => (laws_eqInt64S k r_6 r_1).bind fun r_7 => (if (!r_7) = true then some false else (laws_heldInt64S k y_4.2.1.1 1).bind fun r_8 => (if (decide (r_8 < 0)) = true then some false else (if (!(decide (r_8 = y_4.1.1))) = true then some false else some true)))))))
def fe_laws_FnExactDamagedLines (k : Nat) : FE := ⟨.str, 1, .bool, fun x => laws_FnExactDamagedLines k x⟩
theorem ok_laws_FnExactDamagedLines (k : Nat) : FnOK Tryd.prog 3 (fe_laws_FnExactDamagedLines k) := by
  refine closed_ok (tab := [(4, fe_spec_DamagedLines k), (5, fe_impl_DamagedLines k), (6, fe_laws_eqInt64S k), (8, fe_laws_heldInt64S k)]) (l := [(21, 7, oc_laws_markInt64S_o k)]) ti_ok ti_ht mix (List.forall_mem_cons.2 ⟨ok_spec_DamagedLines k, (List.forall_mem_cons.2 ⟨ok_impl_DamagedLines k, (List.forall_mem_cons.2 ⟨ok_laws_eqInt64S k, (List.forall_mem_cons.2 ⟨ok_laws_heldInt64S k, (List.forall_mem_nil _)⟩)⟩)⟩)⟩) (List.forall_mem_cons.2 ⟨ok_laws_markInt64S_o k, (List.forall_mem_nil _)⟩) ⟨⟨Tryd.f3, (codeOf Tryd.f3), [.tmp 2], (LOn Bool), by kernel_rfl, by kernel_rfl, by kernel_rfl, by kernel_rfl, rfl, by decide, ⟨by kernel_rfl, ?_, ?_⟩, ?_⟩⟩
  · exact no_loops (by kernel_rfl)
  · exact no_cuts (by kernel_rfl)
  · rintro aS0
    kernel_rfl
end
end Go.Proofs.YtobblpbbjaennaaDoor.Ev
