/- Functions of the program, as plain ones. No conditions. -/
import Derived.Test.YtnlpjpfpjnmjmaaG4
import Derived.KernelRfl
set_option linter.unusedVariables false
set_option maxRecDepth 100000
namespace Go.Proofs.Ytnlpjpfpjnmjmaa.Ev
open Go.RowKit
noncomputable section
/- 12 loop.example/g01005/laws.heldStringS -/
def laws_heldStringS_l0 (k : Nat) : Nat → (List (List UInt8)) → Int → Int → (Int → Option Int) → Option Int
  | 0, _, _, _, _ => none
  | n + 1, a0, k1, i5, e_0 => (if (decide (i5 < (List.length a0 : Int))) = true then (if 0 ≤ i5 then (a0[i5.toNat]?).bind fun y_1 => (laws_markText k k1).bind fun r_2 => (if (!(decide (y_1 = r_2))) = true then some (-1) else laws_heldStringS_l0 k n a0 (w_i64 (k1 + 1)) (w_i64 (i5 + 1)) e_0) else none) else e_0 k1)
def laws_heldStringS (k : Nat) (a0 : List (List UInt8)) (k1 : Int) : Option Int := laws_heldStringS_l0 k k a0 k1 0 (fun k_3 => some k_3)
def laws_heldStringS_l0_h : Head := ⟨[(0, (.val (.sl 9 .str))), (1, (.val (.int .i64))), (5, (.val (.int .i64)))], [], []⟩
def laws_heldStringS_l0_x0 : Head := ⟨[(1, (.val (.int .i64)))], [], []⟩
def laws_heldStringS_l0_F (k n : Nat) (x : laws_heldStringS_l0_h.T) (kx : Nat → St → Option Int) : Option Int := laws_heldStringS_l0 k n x.1.1 x.1.2.1 x.1.2.2.1 (fun (k1 : Int) => kx 0 (laws_heldStringS_l0_x0.fill ((k1, ()), (), ())))
def laws_heldStringS_O (k : Nat) : Oracles Int := ⟨fun n => bif Nat.beq n 2 then some (fun σ kx => laws_heldStringS_l0_h.get σ fun x => laws_heldStringS_l0_F k k x kx) else none, fun _ => none⟩
def fe_laws_heldStringS (k : Nat) : FE := ⟨(.pr (.sl 9 .str) (.int .i64)), 1, (.int .i64), fun x => laws_heldStringS k x.1 x.2⟩
theorem laws_heldStringS_l0_ok (k : Nat) : LoopOK (mkEnv ti [(24, fe_laws_markText k)] (lk []) pins0 pinB0) (laws_heldStringS_O k) (rdC (mkEnv ti [(24, fe_laws_markText k)] (lk []) pins0 pinB0) [.tmp 4] (.int .i64)) ((loopsOf (codeOf Try.f12)).getD 0 .skip) (fun σ kx => laws_heldStringS_l0_h.get σ fun x => laws_heldStringS_l0_F k k x kx) := by
  refine ⟨laws_heldStringS_l0_h, [(0, laws_heldStringS_l0_x0)], fun n x kx => laws_heldStringS_l0_F k n x kx, k, by kernel_rfl, by kernel_rfl, fun x kx => by kernel_rfl, ?_, fun σ kx => rfl⟩
  rintro n ⟨⟨a0, k1, i5, ⟨⟩⟩, ⟨⟩, ⟨⟩⟩ kx
  kernel_rfl
theorem ok_laws_heldStringS (k : Nat) : FnOK Try.prog 12 (fe_laws_heldStringS k) := by
  refine closed_ok (tab := [(24, fe_laws_markText k)]) (l := []) ti_ok ti_ht mix (List.forall_mem_cons.2 ⟨ok_laws_markText k, (List.forall_mem_nil _)⟩) (List.forall_mem_nil _) ⟨⟨Try.f12, (codeOf Try.f12), [.tmp 4], (laws_heldStringS_O k), by kernel_rfl, by kernel_rfl, by kernel_rfl, by kernel_rfl, rfl, by decide, ⟨by kernel_rfl, ?_, ?_⟩, ?_⟩⟩
  · refine loops_of (n := 1) (by kernel_rfl) fun i hi => ?_
    match i, hi with
    | 0, _ => exact loop_of (by kernel_rfl) (laws_heldStringS_l0_ok k)
    | n + 1, hi => omega
  · exact no_cuts (by kernel_rfl)
  · rintro ⟨a0, k1⟩
    kernel_rfl
/- 3 loop.example/g01005/laws.FnExactIncidencePicture -/
def laws_FnExactIncidencePicture (k : Nat) (aC0 : List (List Int)) : Option Bool := (laws_szComplex k aC0 1048576).bind fun r_1 => (if (decide (r_1 < 0)) = true then some true else (laws_toComplex k aC0).bind fun r_2 => (spec_IncidencePicture k r_2).bind fun r_3 => (laws_toComplex k aC0).bind fun r_4 => (impl_IncidencePicture k r_4).bind fun r_5 => (laws_eqStringS k r_5.1 r_3.1).bind fun r_6 => (if (!r_6) = true then some false else (if (!(decide (r_5.2 = r_3.2))) = true then some false else (laws_toComplex k aC0).bind fun r_7 => (laws_eqComplex k r_4 r_7).bind fun r_8 => (if (!r_8) = true then some false else (laws_markComplex_o k 1 r_4).bind fun y_9 => (if (decide (y_9.1.1 < 0)) = true then some false else (laws_eqStringS k r_5.1 r_3.1).bind fun r_10 => (if (!r_10) = true then some false else (if (!(decide (r_5.2 = r_3.2))) = true then some false else (laws_markStringS_o k 1 r_5.1).bind fun y_11 => (laws_heldStringS k y_11.2.1.1 1).bind fun r_12 => (if (decide (r_12 < 0)) = true then some false else (if (!(decide (r_12 = y_11.1.1))) = true then some false else (laws_toComplex k aC0).bind fun r_13 => (impl_IncidencePicture k r_13).bind fun r_14 => (laws_eqStringS k r_14.1 r_3.1).bind fun r_15 => (if (!r_15) = true then some false else (if (!(decide (r_14.2 = r_3.2))) = true then some false else (laws_heldStringS k y_11.2.1.1 1).bind fun r_16 => (if (decide (r_16 < 0)) = true then some false else (if (!(decide (r_16 = y_11.1.1))) = true then some false else some true)))))))))))))
def fe_laws_FnExactIncidencePicture (k : Nat) : FE := ⟨(.st (.sl 43 (.sl 2 (.int .i64)))), 1, .bool, fun x => laws_FnExactIncidencePicture k x⟩
theorem ok_laws_FnExactIncidencePicture (k : Nat) : FnOK Try.prog 3 (fe_laws_FnExactIncidencePicture k) := by
  refine closed_ok (tab := [(4, fe_laws_szComplex k), (6, fe_laws_toComplex k), (5, fe_spec_IncidencePicture k), (7, fe_impl_IncidencePicture k), (8, fe_laws_eqStringS k), (9, fe_laws_eqComplex k), (12, fe_laws_heldStringS k)]) (l := [(48, 10, oc_laws_markComplex_o k), (64, 11, oc_laws_markStringS_o k)]) ti_ok ti_ht mix (List.forall_mem_cons.2 ⟨ok_laws_szComplex k, (List.forall_mem_cons.2 ⟨ok_laws_toComplex k, (List.forall_mem_cons.2 ⟨ok_spec_IncidencePicture k, (List.forall_mem_cons.2 ⟨ok_impl_IncidencePicture k, (List.forall_mem_cons.2 ⟨ok_laws_eqStringS k, (List.forall_mem_cons.2 ⟨ok_laws_eqComplex k, (List.forall_mem_cons.2 ⟨ok_laws_heldStringS k, (List.forall_mem_nil _)⟩)⟩)⟩)⟩)⟩)⟩)⟩) (List.forall_mem_cons.2 ⟨ok_laws_markComplex_o k, (List.forall_mem_cons.2 ⟨ok_laws_markStringS_o k, (List.forall_mem_nil _)⟩)⟩) ⟨⟨Try.f3, (codeOf Try.f3), [.tmp 2], (LOn Bool), by kernel_rfl, by kernel_rfl, by kernel_rfl, by kernel_rfl, rfl, by decide, ⟨by kernel_rfl, ?_, ?_⟩, ?_⟩⟩
  · exact no_loops (by kernel_rfl)
  · exact no_cuts (by kernel_rfl)
  · rintro aC0
    kernel_rfl
end
end Go.Proofs.Ytnlpjpfpjnmjmaa.Ev
