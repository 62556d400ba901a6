/- Functions of the program, as plain ones. No conditions. -/
import Derived.Test.YtankbidchgcapaaGreatG0
import Derived.KernelRfl
set_option linter.unusedVariables false
set_option maxRecDepth 100000
namespace Go.Proofs.YtankbidchgcapaaGreat.Ev
open Go.RowKit
noncomputable section
/- 10 loop.example/g01005/laws.szInt64S -/
def laws_szInt64S (a0 : List Int) (left1 : Int) : Option Int := (if (decide ((w_i64 (left1 - (List.length a0 : Int))) < 0)) = true then some (-1) else some (w_i64 (left1 - (List.length a0 : Int))))
def fe_laws_szInt64S : FE := ⟨(.pr (.sl 2 (.int .i64)) (.int .i64)), 1, (.int .i64), fun x => laws_szInt64S x.1 x.2⟩
theorem ok_laws_szInt64S : FnOK Tryz.prog 10 (fe_laws_szInt64S) := by
  refine closed_ok (tab := []) (l := []) ti_ok ti_ht mix (List.forall_mem_nil _) (List.forall_mem_nil _) ⟨⟨Tryz.f10, (codeOf Tryz.f10), [.tmp 4], (LOn Int), by kernel_rfl, by kernel_rfl, by kernel_rfl, by kernel_rfl, rfl, by decide, ⟨by kernel_rfl, ?_, ?_⟩, ?_⟩⟩
  · exact no_loops (by kernel_rfl)
  · exact no_cuts (by kernel_rfl)
  · rintro ⟨a0, left1⟩
    kernel_rfl
/- 60 loop.example/g01005/laws.szInt64SS -/
def laws_szInt64SS_l0 (k : Nat) : Nat → (List (List Int)) → Int → Int → (Int → Option Int) → Option Int
  | 0, _, _, _, _ => none
  | n + 1, a0, left1, i5, e_0 => (if (decide (i5 < (List.length a0 : Int))) = true then (if 0 ≤ i5 then (a0[i5.toNat]?).bind fun y_1 => (laws_szInt64S y_1 left1).bind fun r_2 => (if (decide (r_2 < 0)) = true then some (-1) else laws_szInt64SS_l0 k n a0 r_2 (w_i64 (i5 + 1)) e_0) else none) else e_0 left1)
def laws_szInt64SS (k : Nat) (a0 : List (List Int)) (left1 : Int) : Option Int := (if (decide ((w_i64 (left1 - (List.length a0 : Int))) < 0)) = true then some (-1) else laws_szInt64SS_l0 k k a0 (w_i64 (left1 - (List.length a0 : Int))) 0 (fun left_3 => some left_3))
def laws_szInt64SS_l0_h : Head := ⟨[(0, (.val (.sl 25 (.sl 2 (.int .i64))))), (1, (.val (.int .i64))), (5, (.val (.int .i64)))], [], []⟩
def laws_szInt64SS_l0_x0 : Head := ⟨[(1, (.val (.int .i64)))], [], []⟩
def laws_szInt64SS_l0_F (k n : Nat) (x : laws_szInt64SS_l0_h.T) (kx : Nat → St → Option Int) : Option Int := laws_szInt64SS_l0 k n x.1.1 x.1.2.1 x.1.2.2.1 (fun (left1 : Int) => kx 0 (laws_szInt64SS_l0_x0.fill ((left1, ()), (), ())))
def laws_szInt64SS_O (k : Nat) : Oracles Int := ⟨fun n => bif Nat.beq n 5 then some (fun σ kx => laws_szInt64SS_l0_h.get σ fun x => laws_szInt64SS_l0_F k k x kx) else none, fun _ => none⟩
def fe_laws_szInt64SS (k : Nat) : FE := ⟨(.pr (.sl 25 (.sl 2 (.int .i64))) (.int .i64)), 1, (.int .i64), fun x => laws_szInt64SS k x.1 x.2⟩
theorem laws_szInt64SS_l0_ok (k : Nat) : LoopOK (mkEnv ti [(10, fe_laws_szInt64S)] (lk []) pins0 pinB0) (laws_szInt64SS_O k) (rdC (mkEnv ti [(10, fe_laws_szInt64S)] (lk []) pins0 pinB0) [.tmp 4] (.int .i64)) ((loopsOf (codeOf Tryz.f60)).getD 0 .skip) (fun σ kx => laws_szInt64SS_l0_h.get σ fun x => laws_szInt64SS_l0_F k k x kx) := by
  refine ⟨laws_szInt64SS_l0_h, [(0, laws_szInt64SS_l0_x0)], fun n x kx => laws_szInt64SS_l0_F k n x kx, k, by kernel_rfl, by kernel_rfl, fun x kx => by kernel_rfl, ?_, fun σ kx => rfl⟩
  rintro n ⟨⟨a0, left1, i5, ⟨⟩⟩, ⟨⟩, ⟨⟩⟩ kx
  kernel_rfl
theorem ok_laws_szInt64SS (k : Nat) : FnOK Tryz.prog 60 (fe_laws_szInt64SS k) := by
  refine closed_ok (tab := [(10, fe_laws_szInt64S)]) (l := []) ti_ok ti_ht mix (List.forall_mem_cons.2 ⟨ok_laws_szInt64S, (List.forall_mem_nil _)⟩) (List.forall_mem_nil _) ⟨⟨Tryz.f60, (codeOf Tryz.f60), [.tmp 4], (laws_szInt64SS_O k), by kernel_rfl, by kernel_rfl, by kernel_rfl, by kernel_rfl, rfl, by decide, ⟨by kernel_rfl, ?_, ?_⟩, ?_⟩⟩
  · refine loops_of (n := 1) (by kernel_rfl) fun i hi => ?_
    match i, hi with
    | 0, _ => exact loop_of (by kernel_rfl) (laws_szInt64SS_l0_ok k)
    | n + 1, hi => omega
  · exact no_cuts (by kernel_rfl)
  · rintro ⟨a0, left1⟩
    kernel_rfl
/- 29 loop.example/g01005/laws.szComplex -/
def laws_szComplex (k : Nat) (a0 : List (List Int)) (left1 : Int) : Option Int := (laws_szInt64SS k a0 left1).bind fun r_1 => (if (decide (r_1 < 0)) = true then some (-1) else some r_1)
def fe_laws_szComplex (k : Nat) : FE := ⟨(.pr (.st (.sl 25 (.sl 2 (.int .i64)))) (.int .i64)), 1, (.int .i64), fun x => laws_szComplex k x.1 x.2⟩
theorem ok_laws_szComplex (k : Nat) : FnOK Tryz.prog 29 (fe_laws_szComplex k) := by
  refine closed_ok (tab := [(60, fe_laws_szInt64SS k)]) (l := []) ti_ok ti_ht mix (List.forall_mem_cons.2 ⟨ok_laws_szInt64SS k, (List.forall_mem_nil _)⟩) (List.forall_mem_nil _) ⟨⟨Tryz.f29, (codeOf Tryz.f29), [.tmp 4], (LOn Int), by kernel_rfl, by kernel_rfl, by kernel_rfl, by kernel_rfl, rfl, by decide, ⟨by kernel_rfl, ?_, ?_⟩, ?_⟩⟩
  · exact no_loops (by kernel_rfl)
  · exact no_cuts (by kernel_rfl)
  · rintro ⟨a0, left1⟩
    kernel_rfl
/- 61 loop.example/g01005/laws.szMatrix -/
def laws_szMatrix (a0 : Int × Int × Int × List Int) (left1 : Int) : Option Int := (laws_szInt64S a0.2.2.2 left1).bind fun r_1 => (if (decide (r_1 < 0)) = true then some (-1) else some r_1)
def fe_laws_szMatrix : FE := ⟨(.pr (.st (.pr (.int .i64) (.pr (.int .i64) (.pr (.int .i64) (.sl 2 (.int .i64)))))) (.int .i64)), 1, (.int .i64), fun x => laws_szMatrix x.1 x.2⟩
theorem ok_laws_szMatrix : FnOK Tryz.prog 61 (fe_laws_szMatrix) := by
  refine closed_ok (tab := [(10, fe_laws_szInt64S)]) (l := []) ti_ok ti_ht mix (List.forall_mem_cons.2 ⟨ok_laws_szInt64S, (List.forall_mem_nil _)⟩) (List.forall_mem_nil _) ⟨⟨Tryz.f61, (codeOf Tryz.f61), [.tmp 4], (LOn Int), by kernel_rfl, by kernel_rfl, by kernel_rfl, by kernel_rfl, rfl, by decide, ⟨by kernel_rfl, ?_, ?_⟩, ?_⟩⟩
  · exact no_loops (by kernel_rfl)
  · exact no_cuts (by kernel_rfl)
  · rintro ⟨a0, left1⟩
    kernel_rfl
/- 30 loop.example/g01005/laws.szMatrixS -/
def laws_szMatrixS_l0 (k : Nat) : Nat → (List (Int × Int × Int × List Int)) → Int → Int → (Int → Option Int) → Option Int
  | 0, _, _, _, _ => none
  | n + 1, a0, left1, i5, e_0 => (if (decide (i5 < (List.length a0 : Int))) = true then (if 0 ≤ i5 then (a0[i5.toNat]?).bind fun y_1 => (laws_szMatrix y_1 left1).bind fun r_2 => (if (decide (r_2 < 0)) = true then some (-1) else laws_szMatrixS_l0 k n a0 r_2 (w_i64 (i5 + 1)) e_0) else none) else e_0 left1)
def laws_szMatrixS (k : Nat) (a0 : List (Int × Int × Int × List Int)) (left1 : Int) : Option Int := (if (decide ((w_i64 (left1 - (List.length a0 : Int))) < 0)) = true then some (-1) else laws_szMatrixS_l0 k k a0 (w_i64 (left1 - (List.length a0 : Int))) 0 (fun left_3 => some left_3))
def laws_szMatrixS_l0_h : Head := ⟨[(0, (.val (.sl 118 (.st (.pr (.int .i64) (.pr (.int .i64) (.pr (.int .i64) (.sl 2 (.int .i64))))))))), (1, (.val (.int .i64))), (5, (.val (.int .i64)))], [], []⟩
def laws_szMatrixS_l0_x0 : Head := ⟨[(1, (.val (.int .i64)))], [], []⟩
def laws_szMatrixS_l0_F (k n : Nat) (x : laws_szMatrixS_l0_h.T) (kx : Nat → St → Option Int) : Option Int := laws_szMatrixS_l0 k n x.1.1 x.1.2.1 x.1.2.2.1 (fun (left1 : Int) => kx 0 (laws_szMatrixS_l0_x0.fill ((left1, ()), (), ())))
def laws_szMatrixS_O (k : Nat) : Oracles Int := ⟨fun n => bif Nat.beq n 5 then some (fun σ kx => laws_szMatrixS_l0_h.get σ fun x => laws_szMatrixS_l0_F k k x kx) else none, fun _ => none⟩
def fe_laws_szMatrixS (k : Nat) : FE := ⟨(.pr (.sl 118 (.st (.pr (.int .i64) (.pr (.int .i64) (.pr (.int .i64) (.sl 2 (.int .i64))))))) (.int .i64)), 1, (.int .i64), fun x => laws_szMatrixS k x.1 x.2⟩
theorem laws_szMatrixS_l0_ok (k : Nat) : LoopOK (mkEnv ti [(61, fe_laws_szMatrix)] (lk []) pins0 pinB0) (laws_szMatrixS_O k) (rdC (mkEnv ti [(61, fe_laws_szMatrix)] (lk []) pins0 pinB0) [.tmp 4] (.int .i64)) ((loopsOf (codeOf Tryz.f30)).getD 0 .skip) (fun σ kx => laws_szMatrixS_l0_h.get σ fun x => laws_szMatrixS_l0_F k k x kx) := by
  refine ⟨laws_szMatrixS_l0_h, [(0, laws_szMatrixS_l0_x0)], fun n x kx => laws_szMatrixS_l0_F k n x kx, k, by kernel_rfl, by kernel_rfl, fun x kx => by kernel_rfl, ?_, fun σ kx => rfl⟩
  rintro n ⟨⟨a0, left1, i5, ⟨⟩⟩, ⟨⟩, ⟨⟩⟩ kx
  kernel_rfl
theorem ok_laws_szMatrixS (k : Nat) : FnOK Tryz.prog 30 (fe_laws_szMatrixS k) := by
  refine closed_ok (tab := [(61, fe_laws_szMatrix)]) (l := []) ti_ok ti_ht mix (List.forall_mem_cons.2 ⟨ok_laws_szMatrix, (List.forall_mem_nil _)⟩) (List.forall_mem_nil _) ⟨⟨Tryz.f30, (codeOf Tryz.f30), [.tmp 4], (laws_szMatrixS_O k), by kernel_rfl, by kernel_rfl, by kernel_rfl, by kernel_rfl, rfl, by decide, ⟨by kernel_rfl, ?_, ?_⟩, ?_⟩⟩
  · refine loops_of (n := 1) (by kernel_rfl) fun i hi => ?_
    match i, hi with
    | 0, _ => exact loop_of (by kernel_rfl) (laws_szMatrixS_l0_ok k)
    | n + 1, hi => omega
  · exact no_cuts (by kernel_rfl)
  · rintro ⟨a0, left1⟩
    kernel_rfl
/- 9 loop.example/g01005/laws.szSheaf -/
def laws_szSheaf (k : Nat) (a0 : List (List Int) × Int × List Int × List (Int × Int × Int × List Int)) (left1 : Int) : Option Int := (laws_szComplex k a0.1 left1).bind fun r_1 => (if (decide (r_1 < 0)) = true then some (-1) else (laws_szInt64S a0.2.2.1 r_1).bind fun r_2 => (if (decide (r_2 < 0)) = true then some (-1) else (laws_szMatrixS k a0.2.2.2 r_2).bind fun r_3 => (if (decide (r_3 < 0)) = true then some (-1) else some r_3)))
def fe_laws_szSheaf (k : Nat) : FE := ⟨(.pr (.st (.pr (.st (.sl 25 (.sl 2 (.int .i64)))) (.pr (.int .i64) (.pr (.sl 2 (.int .i64)) (.sl 118 (.st (.pr (.int .i64) (.pr (.int .i64) (.pr (.int .i64) (.sl 2 (.int .i64))))))))))) (.int .i64)), 1, (.int .i64), fun x => laws_szSheaf k x.1 x.2⟩
theorem ok_laws_szSheaf (k : Nat) : FnOK Tryz.prog 9 (fe_laws_szSheaf k) := by
  refine closed_ok (tab := [(29, fe_laws_szComplex k), (10, fe_laws_szInt64S), (30, fe_laws_szMatrixS k)]) (l := []) ti_ok ti_ht mix (List.forall_mem_cons.2 ⟨ok_laws_szComplex k, (List.forall_mem_cons.2 ⟨ok_laws_szInt64S, (List.forall_mem_cons.2 ⟨ok_laws_szMatrixS k, (List.forall_mem_nil _)⟩)⟩)⟩) (List.forall_mem_nil _) ⟨⟨Tryz.f9, (codeOf Tryz.f9), [.tmp 4], (LOn Int), by kernel_rfl, by kernel_rfl, by kernel_rfl, by kernel_rfl, rfl, by decide, ⟨by kernel_rfl, ?_, ?_⟩, ?_⟩⟩
  · exact no_loops (by kernel_rfl)
  · exact no_cuts (by kernel_rfl)
  · rintro ⟨a0, left1⟩
    kernel_rfl
/- 31 loop.example/g01005/laws.szArcS -/
def laws_szArcS (a0 : List (Int × Int × Int)) (left1 : Int) : Option Int := (if (decide ((w_i64 (left1 - (List.length a0 : Int))) < 0)) = true then some (-1) else some (w_i64 (left1 - (List.length a0 : Int))))
def fe_laws_szArcS : FE := ⟨(.pr (.sl 129 (.st (.pr (.int .i64) (.pr (.int .i64) (.int .i64))))) (.int .i64)), 1, (.int .i64), fun x => laws_szArcS x.1 x.2⟩
theorem ok_laws_szArcS : FnOK Tryz.prog 31 (fe_laws_szArcS) := by
  refine closed_ok (tab := []) (l := []) ti_ok ti_ht mix (List.forall_mem_nil _) (List.forall_mem_nil _) ⟨⟨Tryz.f31, (codeOf Tryz.f31), [.tmp 4], (LOn Int), by kernel_rfl, by kernel_rfl, by kernel_rfl, by kernel_rfl, rfl, by decide, ⟨by kernel_rfl, ?_, ?_⟩, ?_⟩⟩
  · exact no_loops (by kernel_rfl)
  · exact no_cuts (by kernel_rfl)
  · rintro ⟨a0, left1⟩
    kernel_rfl
/- 11 loop.example/g01005/laws.szNetwork -/
def laws_szNetwork (a0 : Int × Int × Int × List (Int × Int × Int)) (left1 : Int) : Option Int := (laws_szArcS a0.2.2.2 left1).bind fun r_1 => (if (decide (r_1 < 0)) = true then some (-1) else some r_1)
def fe_laws_szNetwork : FE := ⟨(.pr (.st (.pr (.int .i64) (.pr (.int .i64) (.pr (.int .i64) (.sl 129 (.st (.pr (.int .i64) (.pr (.int .i64) (.int .i64))))))))) (.int .i64)), 1, (.int .i64), fun x => laws_szNetwork x.1 x.2⟩
theorem ok_laws_szNetwork : FnOK Tryz.prog 11 (fe_laws_szNetwork) := by
  refine closed_ok (tab := [(31, fe_laws_szArcS)]) (l := []) ti_ok ti_ht mix (List.forall_mem_cons.2 ⟨ok_laws_szArcS, (List.forall_mem_nil _)⟩) (List.forall_mem_nil _) ⟨⟨Tryz.f11, (codeOf Tryz.f11), [.tmp 4], (LOn Int), by kernel_rfl, by kernel_rfl, by kernel_rfl, by kernel_rfl, rfl, by decide, ⟨by kernel_rfl, ?_, ?_⟩, ?_⟩⟩
  · exact no_loops (by kernel_rfl)
  · exact no_cuts (by kernel_rfl)
  · rintro ⟨a0, left1⟩
    kernel_rfl
/- 32 loop.example/g01005/laws.szTurnS -/
def laws_szTurnS (a0 : List (Int × Int × Int)) (left1 : Int) : Option Int := (if (decide ((w_i64 (left1 - (List.length a0 : Int))) < 0)) = true then some (-1) else some (w_i64 (left1 - (List.length a0 : Int))))
def fe_laws_szTurnS : FE := ⟨(.pr (.sl 131 (.st (.pr (.int .i64) (.pr (.int .i64) (.int .i64))))) (.int .i64)), 1, (.int .i64), fun x => laws_szTurnS x.1 x.2⟩
theorem ok_laws_szTurnS : FnOK Tryz.prog 32 (fe_laws_szTurnS) := by
  refine closed_ok (tab := []) (l := []) ti_ok ti_ht mix (List.forall_mem_nil _) (List.forall_mem_nil _) ⟨⟨Tryz.f32, (codeOf Tryz.f32), [.tmp 4], (LOn Int), by kernel_rfl, by kernel_rfl, by kernel_rfl, by kernel_rfl, rfl, by decide, ⟨by kernel_rfl, ?_, ?_⟩, ?_⟩⟩
  · exact no_loops (by kernel_rfl)
  · exact no_cuts (by kernel_rfl)
  · rintro ⟨a0, left1⟩
    kernel_rfl
/- 12 loop.example/g01005/laws.szPhases -/
def laws_szPhases (a0 : Int × Int × List (Int × Int × Int)) (left1 : Int) : Option Int := (laws_szTurnS a0.2.2 left1).bind fun r_1 => (if (decide (r_1 < 0)) = true then some (-1) else some r_1)
def fe_laws_szPhases : FE := ⟨(.pr (.st (.pr (.int .i64) (.pr (.int .i64) (.sl 131 (.st (.pr (.int .i64) (.pr (.int .i64) (.int .i64)))))))) (.int .i64)), 1, (.int .i64), fun x => laws_szPhases x.1 x.2⟩
theorem ok_laws_szPhases : FnOK Tryz.prog 12 (fe_laws_szPhases) := by
  refine closed_ok (tab := [(32, fe_laws_szTurnS)]) (l := []) ti_ok ti_ht mix (List.forall_mem_cons.2 ⟨ok_laws_szTurnS, (List.forall_mem_nil _)⟩) (List.forall_mem_nil _) ⟨⟨Tryz.f12, (codeOf Tryz.f12), [.tmp 4], (LOn Int), by kernel_rfl, by kernel_rfl, by kernel_rfl, by kernel_rfl, rfl, by decide, ⟨by kernel_rfl, ?_, ?_⟩, ?_⟩⟩
  · exact no_loops (by kernel_rfl)
  · exact no_cuts (by kernel_rfl)
  · rintro ⟨a0, left1⟩
    kernel_rfl
/- 4 loop.example/g01005/laws.szWork -/
def laws_szWork (k : Nat) (a0 : (List (List Int) × Int × List Int × List (Int × Int × Int × List Int)) × Int × List Int × List Int × (Int × Int × Int × List (Int × Int × Int)) × List Int × List Int × (Int × Int × List (Int × Int × Int)) × List Int) (left1 : Int) : Option Int := (laws_szSheaf k a0.1 left1).bind fun r_1 => (if (decide (r_1 < 0)) = true then some (-1) else (laws_szInt64S a0.2.2.1 r_1).bind fun r_2 => (if (decide (r_2 < 0)) = true then some (-1) else (laws_szInt64S a0.2.2.2.1 r_2).bind fun r_3 => (if (decide (r_3 < 0)) = true then some (-1) else (laws_szNetwork a0.2.2.2.2.1 r_3).bind fun r_4 => (if (decide (r_4 < 0)) = true then some (-1) else (laws_szInt64S a0.2.2.2.2.2.1 r_4).bind fun r_5 => (if (decide (r_5 < 0)) = true then some (-1) else (laws_szInt64S a0.2.2.2.2.2.2.1 r_5).bind fun r_6 => (if (decide (r_6 < 0)) = true then some (-1) else (laws_szPhases a0.2.2.2.2.2.2.2.1 r_6).bind fun r_7 => (if (decide (r_7 < 0)) = true then some (-1) else (laws_szInt64S a0.2.2.2.2.2.2.2.2 r_7).bind fun r_8 => (if (decide (r_8 < 0)) = true then some (-1) else some r_8))))))))
def fe_laws_szWork (k : Nat) : FE := ⟨(.pr (.st (.pr (.st (.pr (.st (.sl 25 (.sl 2 (.int .i64)))) (.pr (.int .i64) (.pr (.sl 2 (.int .i64)) (.sl 118 (.st (.pr (.int .i64) (.pr (.int .i64) (.pr (.int .i64) (.sl 2 (.int .i64))))))))))) (.pr (.int .i64) (.pr (.sl 2 (.int .i64)) (.pr (.sl 2 (.int .i64)) (.pr (.st (.pr (.int .i64) (.pr (.int .i64) (.pr (.int .i64) (.sl 129 (.st (.pr (.int .i64) (.pr (.int .i64) (.int .i64))))))))) (.pr (.sl 2 (.int .i64)) (.pr (.sl 2 (.int .i64)) (.pr (.st (.pr (.int .i64) (.pr (.int .i64) (.sl 131 (.st (.pr (.int .i64) (.pr (.int .i64) (.int .i64)))))))) (.sl 2 (.int .i64))))))))))) (.int .i64)), 1, (.int .i64), fun x => laws_szWork k x.1 x.2⟩
theorem ok_laws_szWork (k : Nat) : FnOK Tryz.prog 4 (fe_laws_szWork k) := by
  refine closed_ok (tab := [(9, fe_laws_szSheaf k), (10, fe_laws_szInt64S), (11, fe_laws_szNetwork), (12, fe_laws_szPhases)]) (l := []) ti_ok ti_ht mix (List.forall_mem_cons.2 ⟨ok_laws_szSheaf k, (List.forall_mem_cons.2 ⟨ok_laws_szInt64S, (List.forall_mem_cons.2 ⟨ok_laws_szNetwork, (List.forall_mem_cons.2 ⟨ok_laws_szPhases, (List.forall_mem_nil _)⟩)⟩)⟩)⟩) (List.forall_mem_nil _) ⟨⟨Tryz.f4, (codeOf Tryz.f4), [.tmp 4], (LOn Int), by kernel_rfl, by kernel_rfl, by kernel_rfl, by kernel_rfl, rfl, by decide, ⟨by kernel_rfl, ?_, ?_⟩, ?_⟩⟩
  · exact no_loops (by kernel_rfl)
  · exact no_cuts (by kernel_rfl)
  · rintro ⟨a0, left1⟩
    kernel_rfl
/- 15 loop.example/g01005/laws.toInt64S -/
def laws_toInt64S_l0 (k : Nat) : Nat → (List Int) → Int → (List Int) → ((List Int) → Option (List Int)) → Option (List Int)
  | 0, _, _, _, _ => none
  | n + 1, a0, i4, q_1, e_0 => (if (decide (i4 < (List.length a0 : Int))) = true then (if 0 ≤ i4 then (a0[i4.toNat]?).bind fun y_2 => (if 0 ≤ i4 ∧ i4.toNat < List.length q_1 then (q_1[i4.toNat]?).bind fun y_3 => (q_1[i4.toNat]?).bind fun y_4 => laws_toInt64S_l0 k n a0 (w_i64 (i4 + 1)) (q_1.set i4.toNat y_2) e_0 else none) else none) else e_0 q_1)
def laws_toInt64S (k : Nat) (a0 : List Int) : Option (List Int) := (if 0 ≤ (List.length a0 : Int) ∧ (List.length a0 : Int) ≤ (List.length a0 : Int) ∧ (List.length a0 : Int) * 8 ≤ LIM then laws_toInt64S_l0 k k a0 0 (List.replicate (List.length a0) 0) (fun q_5 => some q_5) else none)
def laws_toInt64S_l0_h : Head := ⟨[(0, (.val (.sl 2 (.int .i64)))), (3, (.ref 64000000 [])), (4, (.val (.int .i64)))], [(64000000, 2, (.int .i64), false)], []⟩
def laws_toInt64S_l0_x0 : Head := ⟨[(3, (.ref 64000000 []))], [(64000000, 2, (.int .i64), false)], []⟩
def laws_toInt64S_l0_F (k n : Nat) (x : laws_toInt64S_l0_h.T) (kx : Nat → St → Option (List Int)) : Option (List Int) := laws_toInt64S_l0 k n x.1.1 x.1.2.2.1 x.2.1.1 (fun (q_5 : List Int) => kx 0 (laws_toInt64S_l0_x0.fill (((), ()), (q_5, ()), ())))
def laws_toInt64S_O (k : Nat) : Oracles (List Int) := ⟨fun n => bif Nat.beq n 3 then some (fun σ kx => laws_toInt64S_l0_h.get σ fun x => laws_toInt64S_l0_F k k x kx) else none, fun _ => none⟩
def fe_laws_toInt64S (k : Nat) : FE := ⟨(.sl 2 (.int .i64)), 1, (.sl 2 (.int .i64)), fun x => laws_toInt64S k x⟩
theorem laws_toInt64S_l0_ok (k : Nat) : LoopOK (mkEnv ti [] (lk []) pins0 pinB0) (laws_toInt64S_O k) (rdC (mkEnv ti [] (lk []) pins0 pinB0) [.tmp 2] (.sl 2 (.int .i64))) ((loopsOf (codeOf Tryz.f15)).getD 0 .skip) (fun σ kx => laws_toInt64S_l0_h.get σ fun x => laws_toInt64S_l0_F k k x kx) := by
  refine ⟨laws_toInt64S_l0_h, [(0, laws_toInt64S_l0_x0)], fun n x kx => laws_toInt64S_l0_F k n x kx, k, by kernel_rfl, by kernel_rfl, fun x kx => by kernel_rfl, ?_, fun σ kx => rfl⟩
  rintro n ⟨⟨a0, ⟨⟩, i4, ⟨⟩⟩, ⟨q_1, ⟨⟩⟩, ⟨⟩⟩ kx
  kernel_rfl
theorem ok_laws_toInt64S (k : Nat) : FnOK Tryz.prog 15 (fe_laws_toInt64S k) := by
  refine closed_ok (tab := []) (l := []) ti_ok ti_ht mix (List.forall_mem_nil _) (List.forall_mem_nil _) ⟨⟨Tryz.f15, (codeOf Tryz.f15), [.tmp 2], (laws_toInt64S_O k), by kernel_rfl, by kernel_rfl, by kernel_rfl, by kernel_rfl, rfl, by decide, ⟨by kernel_rfl, ?_, ?_⟩, ?_⟩⟩
  · refine loops_of (n := 1) (by kernel_rfl) fun i hi => ?_
    match i, hi with
    | 0, _ => exact loop_of (by kernel_rfl) (laws_toInt64S_l0_ok k)
    | n + 1, hi => omega
  · exact no_cuts (by kernel_rfl)
  · rintro a0
    kernel_rfl
/- 70 loop.example/g01005/laws.toInt64SS -/
def laws_toInt64SS_l0 (k : Nat) : Nat → (List (List Int)) → Int → (List (List Int)) → ((List (List Int)) → Option (List (List Int))) → Option (List (List Int))
  | 0, _, _, _, _ => none
  | n + 1, a0, i4, q_1, e_0 => (if (decide (i4 < (List.length a0 : Int))) = true then (if 0 ≤ i4 then (a0[i4.toNat]?).bind fun y_2 => (laws_toInt64S k y_2).bind fun r_3 => (if 0 ≤ i4 ∧ i4.toNat < List.length q_1 then (q_1[i4.toNat]?).bind fun y_4 => (q_1[i4.toNat]?).bind fun y_5 => laws_toInt64SS_l0 k n a0 (w_i64 (i4 + 1)) (q_1.set i4.toNat r_3) e_0 else none) else none) else e_0 q_1)
def laws_toInt64SS (k : Nat) (a0 : List (List Int)) : Option (List (List Int)) := (if 0 ≤ (List.length a0 : Int) ∧ (List.length a0 : Int) ≤ (List.length a0 : Int) ∧ (List.length a0 : Int) * 24 ≤ LIM then laws_toInt64SS_l0 k k a0 0 (List.replicate (List.length a0) ([] : List Int)) (fun q_6 => some q_6) else none)
def laws_toInt64SS_l0_h : Head := ⟨[(0, (.val (.sl 25 (.sl 2 (.int .i64))))), (3, (.ref 64000000 [])), (4, (.val (.int .i64)))], [(64000000, 25, (.sl 2 (.int .i64)), false)], []⟩
def laws_toInt64SS_l0_x0 : Head := ⟨[(3, (.ref 64000000 []))], [(64000000, 25, (.sl 2 (.int .i64)), false)], []⟩
def laws_toInt64SS_l0_F (k n : Nat) (x : laws_toInt64SS_l0_h.T) (kx : Nat → St → Option (List (List Int))) : Option (List (List Int)) := laws_toInt64SS_l0 k n x.1.1 x.1.2.2.1 x.2.1.1 (fun (q_6 : List (List Int)) => kx 0 (laws_toInt64SS_l0_x0.fill (((), ()), (q_6, ()), ())))
def laws_toInt64SS_O (k : Nat) : Oracles (List (List Int)) := ⟨fun n => bif Nat.beq n 3 then some (fun σ kx => laws_toInt64SS_l0_h.get σ fun x => laws_toInt64SS_l0_F k k x kx) else none, fun _ => none⟩
def fe_laws_toInt64SS (k : Nat) : FE := ⟨(.sl 25 (.sl 2 (.int .i64))), 1, (.sl 25 (.sl 2 (.int .i64))), fun x => laws_toInt64SS k x⟩
theorem laws_toInt64SS_l0_ok (k : Nat) : LoopOK (mkEnv ti [(15, fe_laws_toInt64S k)] (lk []) pins0 pinB0) (laws_toInt64SS_O k) (rdC (mkEnv ti [(15, fe_laws_toInt64S k)] (lk []) pins0 pinB0) [.tmp 2] (.sl 25 (.sl 2 (.int .i64)))) ((loopsOf (codeOf Tryz.f70)).getD 0 .skip) (fun σ kx => laws_toInt64SS_l0_h.get σ fun x => laws_toInt64SS_l0_F k k x kx) := by
  refine ⟨laws_toInt64SS_l0_h, [(0, laws_toInt64SS_l0_x0)], fun n x kx => laws_toInt64SS_l0_F k n x kx, k, by kernel_rfl, by kernel_rfl, fun x kx => by kernel_rfl, ?_, fun σ kx => rfl⟩
  rintro n ⟨⟨a0, ⟨⟩, i4, ⟨⟩⟩, ⟨q_1, ⟨⟩⟩, ⟨⟩⟩ kx
  kernel_rfl
theorem ok_laws_toInt64SS (k : Nat) : FnOK Tryz.prog 70 (fe_laws_toInt64SS k) := by
  refine closed_ok (tab := [(15, fe_laws_toInt64S k)]) (l := []) ti_ok ti_ht mix (List.forall_mem_cons.2 ⟨ok_laws_toInt64S k, (List.forall_mem_nil _)⟩) (List.forall_mem_nil _) ⟨⟨Tryz.f70, (codeOf Tryz.f70), [.tmp 2], (laws_toInt64SS_O k), by kernel_rfl, by kernel_rfl, by kernel_rfl, by kernel_rfl, rfl, by decide, ⟨by kernel_rfl, ?_, ?_⟩, ?_⟩⟩
  · refine loops_of (n := 1) (by kernel_rfl) fun i hi => ?_
    match i, hi with
    | 0, _ => exact loop_of (by kernel_rfl) (laws_toInt64SS_l0_ok k)
    | n + 1, hi => omega
  · exact no_cuts (by kernel_rfl)
  · rintro a0
    kernel_rfl
/- 40 loop.example/g01005/laws.toComplex -/
def laws_toComplex (k : Nat) (a0 : List (List Int)) : Option (List (List Int)) := (laws_toInt64SS k a0).bind fun r_1 => some r_1
def fe_laws_toComplex (k : Nat) : FE := ⟨(.st (.sl 25 (.sl 2 (.int .i64)))), 1, (.st (.sl 25 (.sl 2 (.int .i64)))), fun x => laws_toComplex k x⟩
theorem ok_laws_toComplex (k : Nat) : FnOK Tryz.prog 40 (fe_laws_toComplex k) := by
  refine closed_ok (tab := [(70, fe_laws_toInt64SS k)]) (l := []) ti_ok ti_ht mix (List.forall_mem_cons.2 ⟨ok_laws_toInt64SS k, (List.forall_mem_nil _)⟩) (List.forall_mem_nil _) ⟨⟨Tryz.f40, (codeOf Tryz.f40), [.cell 2 39], (LOn (List (List Int))), by kernel_rfl, by kernel_rfl, by kernel_rfl, by kernel_rfl, rfl, by decide, ⟨by kernel_rfl, ?_, ?_⟩, ?_⟩⟩
  · exact no_loops (by kernel_rfl)
  · exact no_cuts (by kernel_rfl)
  · rintro a0
    kernel_rfl
/- 71 loop.example/g01005/laws.toMatrix -/
def laws_toMatrix (k : Nat) (a0 : Int × Int × Int × List Int) : Option (Int × Int × Int × List Int) := (laws_toInt64S k a0.2.2.2).bind fun r_1 => some (a0.1, (a0.2.1, (a0.2.2.1, r_1)))
def fe_laws_toMatrix (k : Nat) : FE := ⟨(.st (.pr (.int .i64) (.pr (.int .i64) (.pr (.int .i64) (.sl 2 (.int .i64)))))), 1, (.st (.pr (.int .i64) (.pr (.int .i64) (.pr (.int .i64) (.sl 2 (.int .i64)))))), fun x => laws_toMatrix k x⟩
theorem ok_laws_toMatrix (k : Nat) : FnOK Tryz.prog 71 (fe_laws_toMatrix k) := by
  refine closed_ok (tab := [(15, fe_laws_toInt64S k)]) (l := []) ti_ok ti_ht mix (List.forall_mem_cons.2 ⟨ok_laws_toInt64S k, (List.forall_mem_nil _)⟩) (List.forall_mem_nil _) ⟨⟨Tryz.f71, (codeOf Tryz.f71), [.cell 2 100], (LOn (Int × Int × Int × List Int)), by kernel_rfl, by kernel_rfl, by kernel_rfl, by kernel_rfl, rfl, by decide, ⟨by kernel_rfl, ?_, ?_⟩, ?_⟩⟩
  · exact no_loops (by kernel_rfl)
  · exact no_cuts (by kernel_rfl)
  · rintro a0
    kernel_rfl
/- 41 loop.example/g01005/laws.toMatrixS -/
def laws_toMatrixS_l0 (k : Nat) : Nat → (List (Int × Int × Int × List Int)) → Int → (List (Int × Int × Int × List Int)) → ((List (Int × Int × Int × List Int)) → Option (List (Int × Int × Int × List Int))) → Option (List (Int × Int × Int × List Int))
  | 0, _, _, _, _ => none
  | n + 1, a0, i4, q_1, e_0 => (if (decide (i4 < (List.length a0 : Int))) = true then (if 0 ≤ i4 then (a0[i4.toNat]?).bind fun y_2 => (laws_toMatrix k y_2).bind fun r_3 => (if 0 ≤ i4 ∧ i4.toNat < List.length q_1 then (q_1[i4.toNat]?).bind fun y_4 => (q_1[i4.toNat]?).bind fun y_5 => laws_toMatrixS_l0 k n a0 (w_i64 (i4 + 1)) (q_1.set i4.toNat (r_3.1, (r_3.2.1, (r_3.2.2.1, r_3.2.2.2)))) e_0 else none) else none) else e_0 q_1)
def laws_toMatrixS (k : Nat) (a0 : List (Int × Int × Int × List Int)) : Option (List (Int × Int × Int × List Int)) := (if 0 ≤ (List.length a0 : Int) ∧ (List.length a0 : Int) ≤ (List.length a0 : Int) ∧ (List.length a0 : Int) * 48 ≤ LIM then laws_toMatrixS_l0 k k a0 0 (List.replicate (List.length a0) (0, (0, (0, [])))) (fun q_6 => some q_6) else none)
def laws_toMatrixS_l0_h : Head := ⟨[(0, (.val (.sl 118 (.st (.pr (.int .i64) (.pr (.int .i64) (.pr (.int .i64) (.sl 2 (.int .i64))))))))), (3, (.ref 64000000 [])), (4, (.val (.int .i64)))], [(64000000, 100, (.st (.pr (.int .i64) (.pr (.int .i64) (.pr (.int .i64) (.sl 2 (.int .i64)))))), false)], []⟩
def laws_toMatrixS_l0_x0 : Head := ⟨[(3, (.ref 64000000 []))], [(64000000, 100, (.st (.pr (.int .i64) (.pr (.int .i64) (.pr (.int .i64) (.sl 2 (.int .i64)))))), false)], []⟩
def laws_toMatrixS_l0_F (k n : Nat) (x : laws_toMatrixS_l0_h.T) (kx : Nat → St → Option (List (Int × Int × Int × List Int))) : Option (List (Int × Int × Int × List Int)) := laws_toMatrixS_l0 k n x.1.1 x.1.2.2.1 x.2.1.1 (fun (q_6 : List (Int × Int × Int × List Int)) => kx 0 (laws_toMatrixS_l0_x0.fill (((), ()), (q_6, ()), ())))
def laws_toMatrixS_O (k : Nat) : Oracles (List (Int × Int × Int × List Int)) := ⟨fun n => bif Nat.beq n 3 then some (fun σ kx => laws_toMatrixS_l0_h.get σ fun x => laws_toMatrixS_l0_F k k x kx) else none, fun _ => none⟩
def fe_laws_toMatrixS (k : Nat) : FE := ⟨(.sl 118 (.st (.pr (.int .i64) (.pr (.int .i64) (.pr (.int .i64) (.sl 2 (.int .i64))))))), 1, (.sl 100 (.st (.pr (.int .i64) (.pr (.int .i64) (.pr (.int .i64) (.sl 2 (.int .i64))))))), fun x => laws_toMatrixS k x⟩
theorem laws_toMatrixS_l0_ok (k : Nat) : LoopOK (mkEnv ti [(71, fe_laws_toMatrix k)] (lk []) pins0 pinB0) (laws_toMatrixS_O k) (rdC (mkEnv ti [(71, fe_laws_toMatrix k)] (lk []) pins0 pinB0) [.tmp 2] (.sl 100 (.st (.pr (.int .i64) (.pr (.int .i64) (.pr (.int .i64) (.sl 2 (.int .i64)))))))) ((loopsOf (codeOf Tryz.f41)).getD 0 .skip) (fun σ kx => laws_toMatrixS_l0_h.get σ fun x => laws_toMatrixS_l0_F k k x kx) := by
  refine ⟨laws_toMatrixS_l0_h, [(0, laws_toMatrixS_l0_x0)], fun n x kx => laws_toMatrixS_l0_F k n x kx, k, by kernel_rfl, by kernel_rfl, fun x kx => by kernel_rfl, ?_, fun σ kx => rfl⟩
  rintro n ⟨⟨a0, ⟨⟩, i4, ⟨⟩⟩, ⟨q_1, ⟨⟩⟩, ⟨⟩⟩ kx
  kernel_rfl
theorem ok_laws_toMatrixS (k : Nat) : FnOK Tryz.prog 41 (fe_laws_toMatrixS k) := by
  refine closed_ok (tab := [(71, fe_laws_toMatrix k)]) (l := []) ti_ok ti_ht mix (List.forall_mem_cons.2 ⟨ok_laws_toMatrix k, (List.forall_mem_nil _)⟩) (List.forall_mem_nil _) ⟨⟨Tryz.f41, (codeOf Tryz.f41), [.tmp 2], (laws_toMatrixS_O k), by kernel_rfl, by kernel_rfl, by kernel_rfl, by kernel_rfl, rfl, by decide, ⟨by kernel_rfl, ?_, ?_⟩, ?_⟩⟩
  · refine loops_of (n := 1) (by kernel_rfl) fun i hi => ?_
    match i, hi with
    | 0, _ => exact loop_of (by kernel_rfl) (laws_toMatrixS_l0_ok k)
    | n + 1, hi => omega
  · exact no_cuts (by kernel_rfl)
  · rintro a0
    kernel_rfl
/- 14 loop.example/g01005/laws.toSheaf -/
def laws_toSheaf (k : Nat) (a0 : List (List Int) × Int × List Int × List (Int × Int × Int × List Int)) : Option (List (List Int) × Int × List Int × List (Int × Int × Int × List Int)) := (laws_toComplex k a0.1).bind fun r_1 => (laws_toInt64S k a0.2.2.1).bind fun r_2 => (laws_toMatrixS k a0.2.2.2).bind fun r_3 => some (r_1, (a0.2.1, (r_2, r_3)))
def fe_laws_toSheaf (k : Nat) : FE := ⟨(.st (.pr (.st (.sl 25 (.sl 2 (.int .i64)))) (.pr (.int .i64) (.pr (.sl 2 (.int .i64)) (.sl 118 (.st (.pr (.int .i64) (.pr (.int .i64) (.pr (.int .i64) (.sl 2 (.int .i64))))))))))), 1, (.st (.pr (.st (.sl 25 (.sl 2 (.int .i64)))) (.pr (.int .i64) (.pr (.sl 2 (.int .i64)) (.sl 100 (.st (.pr (.int .i64) (.pr (.int .i64) (.pr (.int .i64) (.sl 2 (.int .i64))))))))))), fun x => laws_toSheaf k x⟩
theorem ok_laws_toSheaf (k : Nat) : FnOK Tryz.prog 14 (fe_laws_toSheaf k) := by
  refine closed_ok (tab := [(40, fe_laws_toComplex k), (15, fe_laws_toInt64S k), (41, fe_laws_toMatrixS k)]) (l := []) ti_ok ti_ht mix (List.forall_mem_cons.2 ⟨ok_laws_toComplex k, (List.forall_mem_cons.2 ⟨ok_laws_toInt64S k, (List.forall_mem_cons.2 ⟨ok_laws_toMatrixS k, (List.forall_mem_nil _)⟩)⟩)⟩) (List.forall_mem_nil _) ⟨⟨Tryz.f14, (codeOf Tryz.f14), [.cell 2 42], (LOn (List (List Int) × Int × List Int × List (Int × Int × Int × List Int))), by kernel_rfl, by kernel_rfl, by kernel_rfl, by kernel_rfl, rfl, by decide, ⟨by kernel_rfl, ?_, ?_⟩, ?_⟩⟩
  · exact no_loops (by kernel_rfl)
  · exact no_cuts (by kernel_rfl)
  · rintro a0
    kernel_rfl
/- 72 loop.example/g01005/laws.toArc -/
def laws_toArc (a0 : Int × Int × Int) : Option (Int × Int × Int) := some (a0.1, (a0.2.1, a0.2.2))
def fe_laws_toArc : FE := ⟨(.st (.pr (.int .i64) (.pr (.int .i64) (.int .i64)))), 1, (.st (.pr (.int .i64) (.pr (.int .i64) (.int .i64)))), fun x => laws_toArc x⟩
theorem ok_laws_toArc : FnOK Tryz.prog 72 (fe_laws_toArc) := by
  refine closed_ok (tab := []) (l := []) ti_ok ti_ht mix (List.forall_mem_nil _) (List.forall_mem_nil _) ⟨⟨Tryz.f72, (codeOf Tryz.f72), [.cell 2 103], (LOn (Int × Int × Int)), by kernel_rfl, by kernel_rfl, by kernel_rfl, by kernel_rfl, rfl, by decide, ⟨by kernel_rfl, ?_, ?_⟩, ?_⟩⟩
  · exact no_loops (by kernel_rfl)
  · exact no_cuts (by kernel_rfl)
  · rintro a0
    kernel_rfl
/- 42 loop.example/g01005/laws.toArcS -/
def laws_toArcS_l0 (k : Nat) : Nat → (List (Int × Int × Int)) → Int → (List (Int × Int × Int)) → ((List (Int × Int × Int)) → Option (List (Int × Int × Int))) → Option (List (Int × Int × Int))
  | 0, _, _, _, _ => none
  | n + 1, a0, i4, q_1, e_0 => (if (decide (i4 < (List.length a0 : Int))) = true then (if 0 ≤ i4 then (a0[i4.toNat]?).bind fun y_2 => (laws_toArc y_2).bind fun r_3 => (if 0 ≤ i4 ∧ i4.toNat < List.length q_1 then (q_1[i4.toNat]?).bind fun y_4 => (q_1[i4.toNat]?).bind fun y_5 => laws_toArcS_l0 k n a0 (w_i64 (i4 + 1)) (q_1.set i4.toNat r_3) e_0 else none) else none) else e_0 q_1)
def laws_toArcS (k : Nat) (a0 : List (Int × Int × Int)) : Option (List (Int × Int × Int)) := (if 0 ≤ (List.length a0 : Int) ∧ (List.length a0 : Int) ≤ (List.length a0 : Int) ∧ (List.length a0 : Int) * 24 ≤ LIM then laws_toArcS_l0 k k a0 0 (List.replicate (List.length a0) (0, (0, 0))) (fun q_6 => some q_6) else none)
def laws_toArcS_l0_h : Head := ⟨[(0, (.val (.sl 129 (.st (.pr (.int .i64) (.pr (.int .i64) (.int .i64))))))), (3, (.ref 64000000 [])), (4, (.val (.int .i64)))], [(64000000, 103, (.st (.pr (.int .i64) (.pr (.int .i64) (.int .i64)))), false)], []⟩
def laws_toArcS_l0_x0 : Head := ⟨[(3, (.ref 64000000 []))], [(64000000, 103, (.st (.pr (.int .i64) (.pr (.int .i64) (.int .i64)))), false)], []⟩
def laws_toArcS_l0_F (k n : Nat) (x : laws_toArcS_l0_h.T) (kx : Nat → St → Option (List (Int × Int × Int))) : Option (List (Int × Int × Int)) := laws_toArcS_l0 k n x.1.1 x.1.2.2.1 x.2.1.1 (fun (q_6 : List (Int × Int × Int)) => kx 0 (laws_toArcS_l0_x0.fill (((), ()), (q_6, ()), ())))
def laws_toArcS_O (k : Nat) : Oracles (List (Int × Int × Int)) := ⟨fun n => bif Nat.beq n 3 then some (fun σ kx => laws_toArcS_l0_h.get σ fun x => laws_toArcS_l0_F k k x kx) else none, fun _ => none⟩
def fe_laws_toArcS (k : Nat) : FE := ⟨(.sl 129 (.st (.pr (.int .i64) (.pr (.int .i64) (.int .i64))))), 1, (.sl 103 (.st (.pr (.int .i64) (.pr (.int .i64) (.int .i64))))), fun x => laws_toArcS k x⟩
theorem laws_toArcS_l0_ok (k : Nat) : LoopOK (mkEnv ti [(72, fe_laws_toArc)] (lk []) pins0 pinB0) (laws_toArcS_O k) (rdC (mkEnv ti [(72, fe_laws_toArc)] (lk []) pins0 pinB0) [.tmp 2] (.sl 103 (.st (.pr (.int .i64) (.pr (.int .i64) (.int .i64)))))) ((loopsOf (codeOf Tryz.f42)).getD 0 .skip) (fun σ kx => laws_toArcS_l0_h.get σ fun x => laws_toArcS_l0_F k k x kx) := by
  refine ⟨laws_toArcS_l0_h, [(0, laws_toArcS_l0_x0)], fun n x kx => laws_toArcS_l0_F k n x kx, k, by kernel_rfl, by kernel_rfl, fun x kx => by kernel_rfl, ?_, fun σ kx => rfl⟩
  rintro n ⟨⟨a0, ⟨⟩, i4, ⟨⟩⟩, ⟨q_1, ⟨⟩⟩, ⟨⟩⟩ kx
  kernel_rfl
theorem ok_laws_toArcS (k : Nat) : FnOK Tryz.prog 42 (fe_laws_toArcS k) := by
  refine closed_ok (tab := [(72, fe_laws_toArc)]) (l := []) ti_ok ti_ht mix (List.forall_mem_cons.2 ⟨ok_laws_toArc, (List.forall_mem_nil _)⟩) (List.forall_mem_nil _) ⟨⟨Tryz.f42, (codeOf Tryz.f42), [.tmp 2], (laws_toArcS_O k), by kernel_rfl, by kernel_rfl, by kernel_rfl, by kernel_rfl, rfl, by decide, ⟨by kernel_rfl, ?_, ?_⟩, ?_⟩⟩
  · refine loops_of (n := 1) (by kernel_rfl) fun i hi => ?_
    match i, hi with
    | 0, _ => exact loop_of (by kernel_rfl) (laws_toArcS_l0_ok k)
    | n + 1, hi => omega
  · exact no_cuts (by kernel_rfl)
  · rintro a0
    kernel_rfl
/- 16 loop.example/g01005/laws.toNetwork -/
def laws_toNetwork (k : Nat) (a0 : Int × Int × Int × List (Int × Int × Int)) : Option (Int × Int × Int × List (Int × Int × Int)) := (laws_toArcS k a0.2.2.2).bind fun r_1 => some (a0.1, (a0.2.1, (a0.2.2.1, r_1)))
def fe_laws_toNetwork (k : Nat) : FE := ⟨(.st (.pr (.int .i64) (.pr (.int .i64) (.pr (.int .i64) (.sl 129 (.st (.pr (.int .i64) (.pr (.int .i64) (.int .i64))))))))), 1, (.st (.pr (.int .i64) (.pr (.int .i64) (.pr (.int .i64) (.sl 103 (.st (.pr (.int .i64) (.pr (.int .i64) (.int .i64))))))))), fun x => laws_toNetwork k x⟩
theorem ok_laws_toNetwork (k : Nat) : FnOK Tryz.prog 16 (fe_laws_toNetwork k) := by
  refine closed_ok (tab := [(42, fe_laws_toArcS k)]) (l := []) ti_ok ti_ht mix (List.forall_mem_cons.2 ⟨ok_laws_toArcS k, (List.forall_mem_nil _)⟩) (List.forall_mem_nil _) ⟨⟨Tryz.f16, (codeOf Tryz.f16), [.cell 2 45], (LOn (Int × Int × Int × List (Int × Int × Int))), by kernel_rfl, by kernel_rfl, by kernel_rfl, by kernel_rfl, rfl, by decide, ⟨by kernel_rfl, ?_, ?_⟩, ?_⟩⟩
  · exact no_loops (by kernel_rfl)
  · exact no_cuts (by kernel_rfl)
  · rintro a0
    kernel_rfl
/- 73 loop.example/g01005/laws.toTurn -/
def laws_toTurn (a0 : Int × Int × Int) : Option (Int × Int × Int) := some (a0.1, (a0.2.1, a0.2.2))
def fe_laws_toTurn : FE := ⟨(.st (.pr (.int .i64) (.pr (.int .i64) (.int .i64)))), 1, (.st (.pr (.int .i64) (.pr (.int .i64) (.int .i64)))), fun x => laws_toTurn x⟩
theorem ok_laws_toTurn : FnOK Tryz.prog 73 (fe_laws_toTurn) := by
  refine closed_ok (tab := []) (l := []) ti_ok ti_ht mix (List.forall_mem_nil _) (List.forall_mem_nil _) ⟨⟨Tryz.f73, (codeOf Tryz.f73), [.cell 2 108], (LOn (Int × Int × Int)), by kernel_rfl, by kernel_rfl, by kernel_rfl, by kernel_rfl, rfl, by decide, ⟨by kernel_rfl, ?_, ?_⟩, ?_⟩⟩
  · exact no_loops (by kernel_rfl)
  · exact no_cuts (by kernel_rfl)
  · rintro a0
    kernel_rfl
/- 43 loop.example/g01005/laws.toTurnS -/
def laws_toTurnS_l0 (k : Nat) : Nat → (List (Int × Int × Int)) → Int → (List (Int × Int × Int)) → ((List (Int × Int × Int)) → Option (List (Int × Int × Int))) → Option (List (Int × Int × Int))
  | 0, _, _, _, _ => none
  | n + 1, a0, i4, q_1, e_0 => (if (decide (i4 < (List.length a0 : Int))) = true then (if 0 ≤ i4 then (a0[i4.toNat]?).bind fun y_2 => (laws_toTurn y_2).bind fun r_3 => (if 0 ≤ i4 ∧ i4.toNat < List.length q_1 then (q_1[i4.toNat]?).bind fun y_4 => (q_1[i4.toNat]?).bind fun y_5 => laws_toTurnS_l0 k n a0 (w_i64 (i4 + 1)) (q_1.set i4.toNat r_3) e_0 else none) else none) else e_0 q_1)
def laws_toTurnS (k : Nat) (a0 : List (Int × Int × Int)) : Option (List (Int × Int × Int)) := (if 0 ≤ (List.length a0 : Int) ∧ (List.length a0 : Int) ≤ (List.length a0 : Int) ∧ (List.length a0 : Int) * 24 ≤ LIM then laws_toTurnS_l0 k k a0 0 (List.replicate (List.length a0) (0, (0, 0))) (fun q_6 => some q_6) else none)
def laws_toTurnS_l0_h : Head := ⟨[(0, (.val (.sl 131 (.st (.pr (.int .i64) (.pr (.int .i64) (.int .i64))))))), (3, (.ref 64000000 [])), (4, (.val (.int .i64)))], [(64000000, 108, (.st (.pr (.int .i64) (.pr (.int .i64) (.int .i64)))), false)], []⟩
def laws_toTurnS_l0_x0 : Head := ⟨[(3, (.ref 64000000 []))], [(64000000, 108, (.st (.pr (.int .i64) (.pr (.int .i64) (.int .i64)))), false)], []⟩
def laws_toTurnS_l0_F (k n : Nat) (x : laws_toTurnS_l0_h.T) (kx : Nat → St → Option (List (Int × Int × Int))) : Option (List (Int × Int × Int)) := laws_toTurnS_l0 k n x.1.1 x.1.2.2.1 x.2.1.1 (fun (q_6 : List (Int × Int × Int)) => kx 0 (laws_toTurnS_l0_x0.fill (((), ()), (q_6, ()), ())))
def laws_toTurnS_O (k : Nat) : Oracles (List (Int × Int × Int)) := ⟨fun n => bif Nat.beq n 3 then some (fun σ kx => laws_toTurnS_l0_h.get σ fun x => laws_toTurnS_l0_F k k x kx) else none, fun _ => none⟩
def fe_laws_toTurnS (k : Nat) : FE := ⟨(.sl 131 (.st (.pr (.int .i64) (.pr (.int .i64) (.int .i64))))), 1, (.sl 108 (.st (.pr (.int .i64) (.pr (.int .i64) (.int .i64))))), fun x => laws_toTurnS k x⟩
theorem laws_toTurnS_l0_ok (k : Nat) : LoopOK (mkEnv ti [(73, fe_laws_toTurn)] (lk []) pins0 pinB0) (laws_toTurnS_O k) (rdC (mkEnv ti [(73, fe_laws_toTurn)] (lk []) pins0 pinB0) [.tmp 2] (.sl 108 (.st (.pr (.int .i64) (.pr (.int .i64) (.int .i64)))))) ((loopsOf (codeOf Tryz.f43)).getD 0 .skip) (fun σ kx => laws_toTurnS_l0_h.get σ fun x => laws_toTurnS_l0_F k k x kx) := by
  refine ⟨laws_toTurnS_l0_h, [(0, laws_toTurnS_l0_x0)], fun n x kx => laws_toTurnS_l0_F k n x kx, k, by kernel_rfl, by kernel_rfl, fun x kx => by kernel_rfl, ?_, fun σ kx => rfl⟩
  rintro n ⟨⟨a0, ⟨⟩, i4, ⟨⟩⟩, ⟨q_1, ⟨⟩⟩, ⟨⟩⟩ kx
  kernel_rfl
theorem ok_laws_toTurnS (k : Nat) : FnOK Tryz.prog 43 (fe_laws_toTurnS k) := by
  refine closed_ok (tab := [(73, fe_laws_toTurn)]) (l := []) ti_ok ti_ht mix (List.forall_mem_cons.2 ⟨ok_laws_toTurn, (List.forall_mem_nil _)⟩) (List.forall_mem_nil _) ⟨⟨Tryz.f43, (codeOf Tryz.f43), [.tmp 2], (laws_toTurnS_O k), by kernel_rfl, by kernel_rfl, by kernel_rfl, by kernel_rfl, rfl, by decide, ⟨by kernel_rfl, ?_, ?_⟩, ?_⟩⟩
  · refine loops_of (n := 1) (by kernel_rfl) fun i hi => ?_
    match i, hi with
    | 0, _ => exact loop_of (by kernel_rfl) (laws_toTurnS_l0_ok k)
    | n + 1, hi => omega
  · exact no_cuts (by kernel_rfl)
  · rintro a0
    kernel_rfl
/- 17 loop.example/g01005/laws.toPhases -/
def laws_toPhases (k : Nat) (a0 : Int × Int × List (Int × Int × Int)) : Option (Int × Int × List (Int × Int × Int)) := (laws_toTurnS k a0.2.2).bind fun r_1 => some (a0.1, (a0.2.1, r_1))
def fe_laws_toPhases (k : Nat) : FE := ⟨(.st (.pr (.int .i64) (.pr (.int .i64) (.sl 131 (.st (.pr (.int .i64) (.pr (.int .i64) (.int .i64)))))))), 1, (.st (.pr (.int .i64) (.pr (.int .i64) (.sl 108 (.st (.pr (.int .i64) (.pr (.int .i64) (.int .i64)))))))), fun x => laws_toPhases k x⟩
theorem ok_laws_toPhases (k : Nat) : FnOK Tryz.prog 17 (fe_laws_toPhases k) := by
  refine closed_ok (tab := [(43, fe_laws_toTurnS k)]) (l := []) ti_ok ti_ht mix (List.forall_mem_cons.2 ⟨ok_laws_toTurnS k, (List.forall_mem_nil _)⟩) (List.forall_mem_nil _) ⟨⟨Tryz.f17, (codeOf Tryz.f17), [.cell 2 48], (LOn (Int × Int × List (Int × Int × Int))), by kernel_rfl, by kernel_rfl, by kernel_rfl, by kernel_rfl, rfl, by decide, ⟨by kernel_rfl, ?_, ?_⟩, ?_⟩⟩
  · exact no_loops (by kernel_rfl)
  · exact no_cuts (by kernel_rfl)
  · rintro a0
    kernel_rfl
end
end Go.Proofs.YtankbidchgcapaaGreat.Ev
