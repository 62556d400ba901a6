/- Functions of the program, as plain ones. No conditions. -/
import Derived.Test.YtmmkijdfiaaobaaGreatG0
import Derived.KernelRfl
set_option linter.unusedVariables false
set_option maxRecDepth 100000
namespace Go.Proofs.YtmmkijdfiaaobaaGreat.Ev
open Go.RowKit
noncomputable section
/- 10 loop.example/g01005/laws.szInt64S -/
def laws_szInt64S (a0 : List Int) (left1 : Int) : Option Int := (if (decide ((w_i64 (left1 - (List.length a0 : Int))) < 0)) = true then some (-1) else some (w_i64 (left1 - (List.length a0 : Int))))
def fe_laws_szInt64S : FE := ⟨(.pr (.sl 2 (.int .i64)) (.int .i64)), 1, (.int .i64), fun x => laws_szInt64S x.1 x.2⟩
theorem ok_laws_szInt64S : FnOK Tryz.prog 10 (fe_laws_szInt64S) := by
  refine closed_ok (tab := []) (l := []) ti_ok ti_ht mix (List.forall_mem_nil _) (List.forall_mem_nil _) ⟨⟨Tryz.f10, (codeOf Tryz.f10), [.tmp 4], (LOn Int), by kernel_rfl, by kernel_rfl, by kernel_rfl, by kernel_rfl, rfl, by decide, ⟨by kernel_rfl, ?_, ?_⟩, ?_⟩⟩
  · exact no_loops (by kernel_rfl)
  · exact no_cuts (by kernel_rfl)
  · rintro ⟨a0, left1⟩
    kernel_rfl
/- 89 loop.example/g01005/laws.szInt64SS -/
def laws_szInt64SS_l0 (k : Nat) : Nat → (List (List Int)) → Int → Int → (Int → Option Int) → Option Int
  | 0, _, _, _, _ => none
  | n + 1, a0, left1, i5, e_0 => (if (decide (i5 < (List.length a0 : Int))) = true then (if 0 ≤ i5 then (a0[i5.toNat]?).bind fun y_1 => (laws_szInt64S y_1 left1).bind fun r_2 => (if (decide (r_2 < 0)) = true then some (-1) else laws_szInt64SS_l0 k n a0 r_2 (w_i64 (i5 + 1)) e_0) else none) else e_0 left1)
def laws_szInt64SS (k : Nat) (a0 : List (List Int)) (left1 : Int) : Option Int := (if (decide ((w_i64 (left1 - (List.length a0 : Int))) < 0)) = true then some (-1) else laws_szInt64SS_l0 k k a0 (w_i64 (left1 - (List.length a0 : Int))) 0 (fun left_3 => some left_3))
def laws_szInt64SS_l0_h : Head := ⟨[(0, (.val (.sl 25 (.sl 2 (.int .i64))))), (1, (.val (.int .i64))), (5, (.val (.int .i64)))], [], []⟩
def laws_szInt64SS_l0_x0 : Head := ⟨[(1, (.val (.int .i64)))], [], []⟩
def laws_szInt64SS_l0_F (k n : Nat) (x : laws_szInt64SS_l0_h.T) (kx : Nat → St → Option Int) : Option Int := laws_szInt64SS_l0 k n x.1.1 x.1.2.1 x.1.2.2.1 (fun (left1 : Int) => kx 0 (laws_szInt64SS_l0_x0.fill ((left1, ()), (), ())))
def laws_szInt64SS_O (k : Nat) : Oracles Int := ⟨fun n => bif Nat.beq n 5 then some (fun σ kx => laws_szInt64SS_l0_h.get σ fun x => laws_szInt64SS_l0_F k k x kx) else none, fun _ => none⟩
def fe_laws_szInt64SS (k : Nat) : FE := ⟨(.pr (.sl 25 (.sl 2 (.int .i64))) (.int .i64)), 1, (.int .i64), fun x => laws_szInt64SS k x.1 x.2⟩
theorem laws_szInt64SS_l0_ok (k : Nat) : LoopOK (mkEnv ti [(10, fe_laws_szInt64S)] (lk []) pins0 pinB0) (laws_szInt64SS_O k) (rdC (mkEnv ti [(10, fe_laws_szInt64S)] (lk []) pins0 pinB0) [.tmp 4] (.int .i64)) ((loopsOf (codeOf Tryz.f89)).getD 0 .skip) (fun σ kx => laws_szInt64SS_l0_h.get σ fun x => laws_szInt64SS_l0_F k k x kx) := by
  refine ⟨laws_szInt64SS_l0_h, [(0, laws_szInt64SS_l0_x0)], fun n x kx => laws_szInt64SS_l0_F k n x kx, k, by kernel_rfl, by kernel_rfl, fun x kx => by kernel_rfl, ?_, fun σ kx => rfl⟩
  rintro n ⟨⟨a0, left1, i5, ⟨⟩⟩, ⟨⟩, ⟨⟩⟩ kx
  kernel_rfl
theorem ok_laws_szInt64SS (k : Nat) : FnOK Tryz.prog 89 (fe_laws_szInt64SS k) := by
  refine closed_ok (tab := [(10, fe_laws_szInt64S)]) (l := []) ti_ok ti_ht mix (List.forall_mem_cons.2 ⟨ok_laws_szInt64S, (List.forall_mem_nil _)⟩) (List.forall_mem_nil _) ⟨⟨Tryz.f89, (codeOf Tryz.f89), [.tmp 4], (laws_szInt64SS_O k), by kernel_rfl, by kernel_rfl, by kernel_rfl, by kernel_rfl, rfl, by decide, ⟨by kernel_rfl, ?_, ?_⟩, ?_⟩⟩
  · refine loops_of (n := 1) (by kernel_rfl) fun i hi => ?_
    match i, hi with
    | 0, _ => exact loop_of (by kernel_rfl) (laws_szInt64SS_l0_ok k)
    | n + 1, hi => omega
  · exact no_cuts (by kernel_rfl)
  · rintro ⟨a0, left1⟩
    kernel_rfl
/- 40 loop.example/g01005/laws.szComplex -/
def laws_szComplex (k : Nat) (a0 : List (List Int)) (left1 : Int) : Option Int := (laws_szInt64SS k a0 left1).bind fun r_1 => (if (decide (r_1 < 0)) = true then some (-1) else some r_1)
def fe_laws_szComplex (k : Nat) : FE := ⟨(.pr (.st (.sl 25 (.sl 2 (.int .i64)))) (.int .i64)), 1, (.int .i64), fun x => laws_szComplex k x.1 x.2⟩
theorem ok_laws_szComplex (k : Nat) : FnOK Tryz.prog 40 (fe_laws_szComplex k) := by
  refine closed_ok (tab := [(89, fe_laws_szInt64SS k)]) (l := []) ti_ok ti_ht mix (List.forall_mem_cons.2 ⟨ok_laws_szInt64SS k, (List.forall_mem_nil _)⟩) (List.forall_mem_nil _) ⟨⟨Tryz.f40, (codeOf Tryz.f40), [.tmp 4], (LOn Int), by kernel_rfl, by kernel_rfl, by kernel_rfl, by kernel_rfl, rfl, by decide, ⟨by kernel_rfl, ?_, ?_⟩, ?_⟩⟩
  · exact no_loops (by kernel_rfl)
  · exact no_cuts (by kernel_rfl)
  · rintro ⟨a0, left1⟩
    kernel_rfl
/- 12 loop.example/g01005/laws.szMatrix -/
def laws_szMatrix (a0 : Int × Int × Int × List Int) (left1 : Int) : Option Int := (laws_szInt64S a0.2.2.2 left1).bind fun r_1 => (if (decide (r_1 < 0)) = true then some (-1) else some r_1)
def fe_laws_szMatrix : FE := ⟨(.pr (.st (.pr (.int .i64) (.pr (.int .i64) (.pr (.int .i64) (.sl 2 (.int .i64)))))) (.int .i64)), 1, (.int .i64), fun x => laws_szMatrix x.1 x.2⟩
theorem ok_laws_szMatrix : FnOK Tryz.prog 12 (fe_laws_szMatrix) := by
  refine closed_ok (tab := [(10, fe_laws_szInt64S)]) (l := []) ti_ok ti_ht mix (List.forall_mem_cons.2 ⟨ok_laws_szInt64S, (List.forall_mem_nil _)⟩) (List.forall_mem_nil _) ⟨⟨Tryz.f12, (codeOf Tryz.f12), [.tmp 4], (LOn Int), by kernel_rfl, by kernel_rfl, by kernel_rfl, by kernel_rfl, rfl, by decide, ⟨by kernel_rfl, ?_, ?_⟩, ?_⟩⟩
  · exact no_loops (by kernel_rfl)
  · exact no_cuts (by kernel_rfl)
  · rintro ⟨a0, left1⟩
    kernel_rfl
/- 41 loop.example/g01005/laws.szMatrixS -/
def laws_szMatrixS_l0 (k : Nat) : Nat → (List (Int × Int × Int × List Int)) → Int → Int → (Int → Option Int) → Option Int
  | 0, _, _, _, _ => none
  | n + 1, a0, left1, i5, e_0 => (if (decide (i5 < (List.length a0 : Int))) = true then (if 0 ≤ i5 then (a0[i5.toNat]?).bind fun y_1 => (laws_szMatrix y_1 left1).bind fun r_2 => (if (decide (r_2 < 0)) = true then some (-1) else laws_szMatrixS_l0 k n a0 r_2 (w_i64 (i5 + 1)) e_0) else none) else e_0 left1)
def laws_szMatrixS (k : Nat) (a0 : List (Int × Int × Int × List Int)) (left1 : Int) : Option Int := (if (decide ((w_i64 (left1 - (List.length a0 : Int))) < 0)) = true then some (-1) else laws_szMatrixS_l0 k k a0 (w_i64 (left1 - (List.length a0 : Int))) 0 (fun left_3 => some left_3))
def laws_szMatrixS_l0_h : Head := ⟨[(0, (.val (.sl 33 (.st (.pr (.int .i64) (.pr (.int .i64) (.pr (.int .i64) (.sl 2 (.int .i64))))))))), (1, (.val (.int .i64))), (5, (.val (.int .i64)))], [], []⟩
def laws_szMatrixS_l0_x0 : Head := ⟨[(1, (.val (.int .i64)))], [], []⟩
def laws_szMatrixS_l0_F (k n : Nat) (x : laws_szMatrixS_l0_h.T) (kx : Nat → St → Option Int) : Option Int := laws_szMatrixS_l0 k n x.1.1 x.1.2.1 x.1.2.2.1 (fun (left1 : Int) => kx 0 (laws_szMatrixS_l0_x0.fill ((left1, ()), (), ())))
def laws_szMatrixS_O (k : Nat) : Oracles Int := ⟨fun n => bif Nat.beq n 5 then some (fun σ kx => laws_szMatrixS_l0_h.get σ fun x => laws_szMatrixS_l0_F k k x kx) else none, fun _ => none⟩
def fe_laws_szMatrixS (k : Nat) : FE := ⟨(.pr (.sl 33 (.st (.pr (.int .i64) (.pr (.int .i64) (.pr (.int .i64) (.sl 2 (.int .i64))))))) (.int .i64)), 1, (.int .i64), fun x => laws_szMatrixS k x.1 x.2⟩
theorem laws_szMatrixS_l0_ok (k : Nat) : LoopOK (mkEnv ti [(12, fe_laws_szMatrix)] (lk []) pins0 pinB0) (laws_szMatrixS_O k) (rdC (mkEnv ti [(12, fe_laws_szMatrix)] (lk []) pins0 pinB0) [.tmp 4] (.int .i64)) ((loopsOf (codeOf Tryz.f41)).getD 0 .skip) (fun σ kx => laws_szMatrixS_l0_h.get σ fun x => laws_szMatrixS_l0_F k k x kx) := by
  refine ⟨laws_szMatrixS_l0_h, [(0, laws_szMatrixS_l0_x0)], fun n x kx => laws_szMatrixS_l0_F k n x kx, k, by kernel_rfl, by kernel_rfl, fun x kx => by kernel_rfl, ?_, fun σ kx => rfl⟩
  rintro n ⟨⟨a0, left1, i5, ⟨⟩⟩, ⟨⟩, ⟨⟩⟩ kx
  kernel_rfl
theorem ok_laws_szMatrixS (k : Nat) : FnOK Tryz.prog 41 (fe_laws_szMatrixS k) := by
  refine closed_ok (tab := [(12, fe_laws_szMatrix)]) (l := []) ti_ok ti_ht mix (List.forall_mem_cons.2 ⟨ok_laws_szMatrix, (List.forall_mem_nil _)⟩) (List.forall_mem_nil _) ⟨⟨Tryz.f41, (codeOf Tryz.f41), [.tmp 4], (laws_szMatrixS_O k), by kernel_rfl, by kernel_rfl, by kernel_rfl, by kernel_rfl, rfl, by decide, ⟨by kernel_rfl, ?_, ?_⟩, ?_⟩⟩
  · refine loops_of (n := 1) (by kernel_rfl) fun i hi => ?_
    match i, hi with
    | 0, _ => exact loop_of (by kernel_rfl) (laws_szMatrixS_l0_ok k)
    | n + 1, hi => omega
  · exact no_cuts (by kernel_rfl)
  · rintro ⟨a0, left1⟩
    kernel_rfl
/- 9 loop.example/g01005/laws.szSheaf -/
def laws_szSheaf (k : Nat) (a0 : List (List Int) × Int × List Int × List (Int × Int × Int × List Int)) (left1 : Int) : Option Int := (laws_szComplex k a0.1 left1).bind fun r_1 => (if (decide (r_1 < 0)) = true then some (-1) else (laws_szInt64S a0.2.2.1 r_1).bind fun r_2 => (if (decide (r_2 < 0)) = true then some (-1) else (laws_szMatrixS k a0.2.2.2 r_2).bind fun r_3 => (if (decide (r_3 < 0)) = true then some (-1) else some r_3)))
def fe_laws_szSheaf (k : Nat) : FE := ⟨(.pr (.st (.pr (.st (.sl 25 (.sl 2 (.int .i64)))) (.pr (.int .i64) (.pr (.sl 2 (.int .i64)) (.sl 33 (.st (.pr (.int .i64) (.pr (.int .i64) (.pr (.int .i64) (.sl 2 (.int .i64))))))))))) (.int .i64)), 1, (.int .i64), fun x => laws_szSheaf k x.1 x.2⟩
theorem ok_laws_szSheaf (k : Nat) : FnOK Tryz.prog 9 (fe_laws_szSheaf k) := by
  refine closed_ok (tab := [(40, fe_laws_szComplex k), (10, fe_laws_szInt64S), (41, fe_laws_szMatrixS k)]) (l := []) ti_ok ti_ht mix (List.forall_mem_cons.2 ⟨ok_laws_szComplex k, (List.forall_mem_cons.2 ⟨ok_laws_szInt64S, (List.forall_mem_cons.2 ⟨ok_laws_szMatrixS k, (List.forall_mem_nil _)⟩)⟩)⟩) (List.forall_mem_nil _) ⟨⟨Tryz.f9, (codeOf Tryz.f9), [.tmp 4], (LOn Int), by kernel_rfl, by kernel_rfl, by kernel_rfl, by kernel_rfl, rfl, by decide, ⟨by kernel_rfl, ?_, ?_⟩, ?_⟩⟩
  · exact no_loops (by kernel_rfl)
  · exact no_cuts (by kernel_rfl)
  · rintro ⟨a0, left1⟩
    kernel_rfl
/- 42 loop.example/g01005/laws.szEdgeS -/
def laws_szEdgeS (a0 : List (Int × Int × Int)) (left1 : Int) : Option Int := (if (decide ((w_i64 (left1 - (List.length a0 : Int))) < 0)) = true then some (-1) else some (w_i64 (left1 - (List.length a0 : Int))))
def fe_laws_szEdgeS : FE := ⟨(.pr (.sl 165 (.st (.pr (.int .i64) (.pr (.int .i64) (.int .i64))))) (.int .i64)), 1, (.int .i64), fun x => laws_szEdgeS x.1 x.2⟩
theorem ok_laws_szEdgeS : FnOK Tryz.prog 42 (fe_laws_szEdgeS) := by
  refine closed_ok (tab := []) (l := []) ti_ok ti_ht mix (List.forall_mem_nil _) (List.forall_mem_nil _) ⟨⟨Tryz.f42, (codeOf Tryz.f42), [.tmp 4], (LOn Int), by kernel_rfl, by kernel_rfl, by kernel_rfl, by kernel_rfl, rfl, by decide, ⟨by kernel_rfl, ?_, ?_⟩, ?_⟩⟩
  · exact no_loops (by kernel_rfl)
  · exact no_cuts (by kernel_rfl)
  · rintro ⟨a0, left1⟩
    kernel_rfl
/- 11 loop.example/g01005/laws.szGraph -/
def laws_szGraph (a0 : Int × List (Int × Int × Int)) (left1 : Int) : Option Int := (laws_szEdgeS a0.2 left1).bind fun r_1 => (if (decide (r_1 < 0)) = true then some (-1) else some r_1)
def fe_laws_szGraph : FE := ⟨(.pr (.st (.pr (.int .i64) (.sl 165 (.st (.pr (.int .i64) (.pr (.int .i64) (.int .i64))))))) (.int .i64)), 1, (.int .i64), fun x => laws_szGraph x.1 x.2⟩
theorem ok_laws_szGraph : FnOK Tryz.prog 11 (fe_laws_szGraph) := by
  refine closed_ok (tab := [(42, fe_laws_szEdgeS)]) (l := []) ti_ok ti_ht mix (List.forall_mem_cons.2 ⟨ok_laws_szEdgeS, (List.forall_mem_nil _)⟩) (List.forall_mem_nil _) ⟨⟨Tryz.f11, (codeOf Tryz.f11), [.tmp 4], (LOn Int), by kernel_rfl, by kernel_rfl, by kernel_rfl, by kernel_rfl, rfl, by decide, ⟨by kernel_rfl, ?_, ?_⟩, ?_⟩⟩
  · exact no_loops (by kernel_rfl)
  · exact no_cuts (by kernel_rfl)
  · rintro ⟨a0, left1⟩
    kernel_rfl
/- 43 loop.example/g01005/laws.szTable -/
def laws_szTable (k : Nat) (a0 : List Int × List (List Int)) (left1 : Int) : Option Int := (laws_szInt64S a0.1 left1).bind fun r_1 => (if (decide (r_1 < 0)) = true then some (-1) else (laws_szInt64SS k a0.2 r_1).bind fun r_2 => (if (decide (r_2 < 0)) = true then some (-1) else some r_2))
def fe_laws_szTable (k : Nat) : FE := ⟨(.pr (.st (.pr (.sl 2 (.int .i64)) (.sl 25 (.sl 2 (.int .i64))))) (.int .i64)), 1, (.int .i64), fun x => laws_szTable k x.1 x.2⟩
theorem ok_laws_szTable (k : Nat) : FnOK Tryz.prog 43 (fe_laws_szTable k) := by
  refine closed_ok (tab := [(10, fe_laws_szInt64S), (89, fe_laws_szInt64SS k)]) (l := []) ti_ok ti_ht mix (List.forall_mem_cons.2 ⟨ok_laws_szInt64S, (List.forall_mem_cons.2 ⟨ok_laws_szInt64SS k, (List.forall_mem_nil _)⟩)⟩) (List.forall_mem_nil _) ⟨⟨Tryz.f43, (codeOf Tryz.f43), [.tmp 4], (LOn Int), by kernel_rfl, by kernel_rfl, by kernel_rfl, by kernel_rfl, rfl, by decide, ⟨by kernel_rfl, ?_, ?_⟩, ?_⟩⟩
  · exact no_loops (by kernel_rfl)
  · exact no_cuts (by kernel_rfl)
  · rintro ⟨a0, left1⟩
    kernel_rfl
/- 13 loop.example/g01005/laws.szTableS -/
def laws_szTableS_l0 (k : Nat) : Nat → (List (List Int × List (List Int))) → Int → Int → (Int → Option Int) → Option Int
  | 0, _, _, _, _ => none
  | n + 1, a0, left1, i5, e_0 => (if (decide (i5 < (List.length a0 : Int))) = true then (if 0 ≤ i5 then (a0[i5.toNat]?).bind fun y_1 => (laws_szTable k y_1 left1).bind fun r_2 => (if (decide (r_2 < 0)) = true then some (-1) else laws_szTableS_l0 k n a0 r_2 (w_i64 (i5 + 1)) e_0) else none) else e_0 left1)
def laws_szTableS (k : Nat) (a0 : List (List Int × List (List Int))) (left1 : Int) : Option Int := (if (decide ((w_i64 (left1 - (List.length a0 : Int))) < 0)) = true then some (-1) else laws_szTableS_l0 k k a0 (w_i64 (left1 - (List.length a0 : Int))) 0 (fun left_3 => some left_3))
def laws_szTableS_l0_h : Head := ⟨[(0, (.val (.sl 96 (.st (.pr (.sl 2 (.int .i64)) (.sl 25 (.sl 2 (.int .i64)))))))), (1, (.val (.int .i64))), (5, (.val (.int .i64)))], [], []⟩
def laws_szTableS_l0_x0 : Head := ⟨[(1, (.val (.int .i64)))], [], []⟩
def laws_szTableS_l0_F (k n : Nat) (x : laws_szTableS_l0_h.T) (kx : Nat → St → Option Int) : Option Int := laws_szTableS_l0 k n x.1.1 x.1.2.1 x.1.2.2.1 (fun (left1 : Int) => kx 0 (laws_szTableS_l0_x0.fill ((left1, ()), (), ())))
def laws_szTableS_O (k : Nat) : Oracles Int := ⟨fun n => bif Nat.beq n 5 then some (fun σ kx => laws_szTableS_l0_h.get σ fun x => laws_szTableS_l0_F k k x kx) else none, fun _ => none⟩
def fe_laws_szTableS (k : Nat) : FE := ⟨(.pr (.sl 96 (.st (.pr (.sl 2 (.int .i64)) (.sl 25 (.sl 2 (.int .i64)))))) (.int .i64)), 1, (.int .i64), fun x => laws_szTableS k x.1 x.2⟩
theorem laws_szTableS_l0_ok (k : Nat) : LoopOK (mkEnv ti [(43, fe_laws_szTable k)] (lk []) pins0 pinB0) (laws_szTableS_O k) (rdC (mkEnv ti [(43, fe_laws_szTable k)] (lk []) pins0 pinB0) [.tmp 4] (.int .i64)) ((loopsOf (codeOf Tryz.f13)).getD 0 .skip) (fun σ kx => laws_szTableS_l0_h.get σ fun x => laws_szTableS_l0_F k k x kx) := by
  refine ⟨laws_szTableS_l0_h, [(0, laws_szTableS_l0_x0)], fun n x kx => laws_szTableS_l0_F k n x kx, k, by kernel_rfl, by kernel_rfl, fun x kx => by kernel_rfl, ?_, fun σ kx => rfl⟩
  rintro n ⟨⟨a0, left1, i5, ⟨⟩⟩, ⟨⟩, ⟨⟩⟩ kx
  kernel_rfl
theorem ok_laws_szTableS (k : Nat) : FnOK Tryz.prog 13 (fe_laws_szTableS k) := by
  refine closed_ok (tab := [(43, fe_laws_szTable k)]) (l := []) ti_ok ti_ht mix (List.forall_mem_cons.2 ⟨ok_laws_szTable k, (List.forall_mem_nil _)⟩) (List.forall_mem_nil _) ⟨⟨Tryz.f13, (codeOf Tryz.f13), [.tmp 4], (laws_szTableS_O k), by kernel_rfl, by kernel_rfl, by kernel_rfl, by kernel_rfl, rfl, by decide, ⟨by kernel_rfl, ?_, ?_⟩, ?_⟩⟩
  · refine loops_of (n := 1) (by kernel_rfl) fun i hi => ?_
    match i, hi with
    | 0, _ => exact loop_of (by kernel_rfl) (laws_szTableS_l0_ok k)
    | n + 1, hi => omega
  · exact no_cuts (by kernel_rfl)
  · rintro ⟨a0, left1⟩
    kernel_rfl
/- 14 loop.example/g01005/laws.szFiltration -/
def laws_szFiltration (k : Nat) (a0 : List (List Int) × List Int) (left1 : Int) : Option Int := (laws_szComplex k a0.1 left1).bind fun r_1 => (if (decide (r_1 < 0)) = true then some (-1) else (laws_szInt64S a0.2 r_1).bind fun r_2 => (if (decide (r_2 < 0)) = true then some (-1) else some r_2))
def fe_laws_szFiltration (k : Nat) : FE := ⟨(.pr (.st (.pr (.st (.sl 25 (.sl 2 (.int .i64)))) (.sl 2 (.int .i64)))) (.int .i64)), 1, (.int .i64), fun x => laws_szFiltration k x.1 x.2⟩
theorem ok_laws_szFiltration (k : Nat) : FnOK Tryz.prog 14 (fe_laws_szFiltration k) := by
  refine closed_ok (tab := [(40, fe_laws_szComplex k), (10, fe_laws_szInt64S)]) (l := []) ti_ok ti_ht mix (List.forall_mem_cons.2 ⟨ok_laws_szComplex k, (List.forall_mem_cons.2 ⟨ok_laws_szInt64S, (List.forall_mem_nil _)⟩)⟩) (List.forall_mem_nil _) ⟨⟨Tryz.f14, (codeOf Tryz.f14), [.tmp 4], (LOn Int), by kernel_rfl, by kernel_rfl, by kernel_rfl, by kernel_rfl, rfl, by decide, ⟨by kernel_rfl, ?_, ?_⟩, ?_⟩⟩
  · exact no_loops (by kernel_rfl)
  · exact no_cuts (by kernel_rfl)
  · rintro ⟨a0, left1⟩
    kernel_rfl
/- 90 loop.example/g01005/laws.szStringS -/
def laws_szStringS_l0 (k : Nat) : Nat → (List (List UInt8)) → Int → Int → (Int → Option Int) → Option Int
  | 0, _, _, _, _ => none
  | n + 1, a0, left1, i5, e_0 => (if (decide (i5 < (List.length a0 : Int))) = true then (if 0 ≤ i5 then (a0[i5.toNat]?).bind fun y_1 => (if (decide ((w_i64 (left1 - (List.length y_1 : Int))) < 0)) = true then some (-1) else laws_szStringS_l0 k n a0 (w_i64 (left1 - (List.length y_1 : Int))) (w_i64 (i5 + 1)) e_0) else none) else e_0 left1)
def laws_szStringS (k : Nat) (a0 : List (List UInt8)) (left1 : Int) : Option Int := (if (decide ((w_i64 (left1 - (List.length a0 : Int))) < 0)) = true then some (-1) else laws_szStringS_l0 k k a0 (w_i64 (left1 - (List.length a0 : Int))) 0 (fun left_2 => some left_2))
def laws_szStringS_l0_h : Head := ⟨[(0, (.val (.sl 9 .str))), (1, (.val (.int .i64))), (5, (.val (.int .i64)))], [], []⟩
def laws_szStringS_l0_x0 : Head := ⟨[(1, (.val (.int .i64)))], [], []⟩
def laws_szStringS_l0_F (k n : Nat) (x : laws_szStringS_l0_h.T) (kx : Nat → St → Option Int) : Option Int := laws_szStringS_l0 k n x.1.1 x.1.2.1 x.1.2.2.1 (fun (left1 : Int) => kx 0 (laws_szStringS_l0_x0.fill ((left1, ()), (), ())))
def laws_szStringS_O (k : Nat) : Oracles Int := ⟨fun n => bif Nat.beq n 5 then some (fun σ kx => laws_szStringS_l0_h.get σ fun x => laws_szStringS_l0_F k k x kx) else none, fun _ => none⟩
def fe_laws_szStringS (k : Nat) : FE := ⟨(.pr (.sl 9 .str) (.int .i64)), 1, (.int .i64), fun x => laws_szStringS k x.1 x.2⟩
theorem laws_szStringS_l0_ok (k : Nat) : LoopOK (mkEnv ti [] (lk []) pins0 pinB0) (laws_szStringS_O k) (rdC (mkEnv ti [] (lk []) pins0 pinB0) [.tmp 4] (.int .i64)) ((loopsOf (codeOf Tryz.f90)).getD 0 .skip) (fun σ kx => laws_szStringS_l0_h.get σ fun x => laws_szStringS_l0_F k k x kx) := by
  refine ⟨laws_szStringS_l0_h, [(0, laws_szStringS_l0_x0)], fun n x kx => laws_szStringS_l0_F k n x kx, k, by kernel_rfl, by kernel_rfl, fun x kx => by kernel_rfl, ?_, fun σ kx => rfl⟩
  rintro n ⟨⟨a0, left1, i5, ⟨⟩⟩, ⟨⟩, ⟨⟩⟩ kx
  kernel_rfl
theorem ok_laws_szStringS (k : Nat) : FnOK Tryz.prog 90 (fe_laws_szStringS k) := by
  refine closed_ok (tab := []) (l := []) ti_ok ti_ht mix (List.forall_mem_nil _) (List.forall_mem_nil _) ⟨⟨Tryz.f90, (codeOf Tryz.f90), [.tmp 4], (laws_szStringS_O k), by kernel_rfl, by kernel_rfl, by kernel_rfl, by kernel_rfl, rfl, by decide, ⟨by kernel_rfl, ?_, ?_⟩, ?_⟩⟩
  · refine loops_of (n := 1) (by kernel_rfl) fun i hi => ?_
    match i, hi with
    | 0, _ => exact loop_of (by kernel_rfl) (laws_szStringS_l0_ok k)
    | n + 1, hi => omega
  · exact no_cuts (by kernel_rfl)
  · rintro ⟨a0, left1⟩
    kernel_rfl
/- 44 loop.example/g01005/laws.szItem -/
def laws_szItem (k : Nat) (a0 : List UInt8 × List (List UInt8) × Int × Int) (left1 : Int) : Option Int := (if (decide ((w_i64 (left1 - (List.length a0.1 : Int))) < 0)) = true then some (-1) else (laws_szStringS k a0.2.1 (w_i64 (left1 - (List.length a0.1 : Int)))).bind fun r_1 => (if (decide (r_1 < 0)) = true then some (-1) else some r_1))
def fe_laws_szItem (k : Nat) : FE := ⟨(.pr (.st (.pr .str (.pr (.sl 9 .str) (.pr (.int .i64) (.int .i64))))) (.int .i64)), 1, (.int .i64), fun x => laws_szItem k x.1 x.2⟩
theorem ok_laws_szItem (k : Nat) : FnOK Tryz.prog 44 (fe_laws_szItem k) := by
  refine closed_ok (tab := [(90, fe_laws_szStringS k)]) (l := []) ti_ok ti_ht mix (List.forall_mem_cons.2 ⟨ok_laws_szStringS k, (List.forall_mem_nil _)⟩) (List.forall_mem_nil _) ⟨⟨Tryz.f44, (codeOf Tryz.f44), [.tmp 4], (LOn Int), by kernel_rfl, by kernel_rfl, by kernel_rfl, by kernel_rfl, rfl, by decide, ⟨by kernel_rfl, ?_, ?_⟩, ?_⟩⟩
  · exact no_loops (by kernel_rfl)
  · exact no_cuts (by kernel_rfl)
  · rintro ⟨a0, left1⟩
    kernel_rfl
/- 15 loop.example/g01005/laws.szItemS -/
def laws_szItemS_l0 (k : Nat) : Nat → (List (List UInt8 × List (List UInt8) × Int × Int)) → Int → Int → (Int → Option Int) → Option Int
  | 0, _, _, _, _ => none
  | n + 1, a0, left1, i5, e_0 => (if (decide (i5 < (List.length a0 : Int))) = true then (if 0 ≤ i5 then (a0[i5.toNat]?).bind fun y_1 => (laws_szItem k y_1 left1).bind fun r_2 => (if (decide (r_2 < 0)) = true then some (-1) else laws_szItemS_l0 k n a0 r_2 (w_i64 (i5 + 1)) e_0) else none) else e_0 left1)
def laws_szItemS (k : Nat) (a0 : List (List UInt8 × List (List UInt8) × Int × Int)) (left1 : Int) : Option Int := (if (decide ((w_i64 (left1 - (List.length a0 : Int))) < 0)) = true then some (-1) else laws_szItemS_l0 k k a0 (w_i64 (left1 - (List.length a0 : Int))) 0 (fun left_3 => some left_3))
def laws_szItemS_l0_h : Head := ⟨[(0, (.val (.sl 100 (.st (.pr .str (.pr (.sl 9 .str) (.pr (.int .i64) (.int .i64)))))))), (1, (.val (.int .i64))), (5, (.val (.int .i64)))], [], []⟩
def laws_szItemS_l0_x0 : Head := ⟨[(1, (.val (.int .i64)))], [], []⟩
def laws_szItemS_l0_F (k n : Nat) (x : laws_szItemS_l0_h.T) (kx : Nat → St → Option Int) : Option Int := laws_szItemS_l0 k n x.1.1 x.1.2.1 x.1.2.2.1 (fun (left1 : Int) => kx 0 (laws_szItemS_l0_x0.fill ((left1, ()), (), ())))
def laws_szItemS_O (k : Nat) : Oracles Int := ⟨fun n => bif Nat.beq n 5 then some (fun σ kx => laws_szItemS_l0_h.get σ fun x => laws_szItemS_l0_F k k x kx) else none, fun _ => none⟩
def fe_laws_szItemS (k : Nat) : FE := ⟨(.pr (.sl 100 (.st (.pr .str (.pr (.sl 9 .str) (.pr (.int .i64) (.int .i64)))))) (.int .i64)), 1, (.int .i64), fun x => laws_szItemS k x.1 x.2⟩
theorem laws_szItemS_l0_ok (k : Nat) : LoopOK (mkEnv ti [(44, fe_laws_szItem k)] (lk []) pins0 pinB0) (laws_szItemS_O k) (rdC (mkEnv ti [(44, fe_laws_szItem k)] (lk []) pins0 pinB0) [.tmp 4] (.int .i64)) ((loopsOf (codeOf Tryz.f15)).getD 0 .skip) (fun σ kx => laws_szItemS_l0_h.get σ fun x => laws_szItemS_l0_F k k x kx) := by
  refine ⟨laws_szItemS_l0_h, [(0, laws_szItemS_l0_x0)], fun n x kx => laws_szItemS_l0_F k n x kx, k, by kernel_rfl, by kernel_rfl, fun x kx => by kernel_rfl, ?_, fun σ kx => rfl⟩
  rintro n ⟨⟨a0, left1, i5, ⟨⟩⟩, ⟨⟩, ⟨⟩⟩ kx
  kernel_rfl
theorem ok_laws_szItemS (k : Nat) : FnOK Tryz.prog 15 (fe_laws_szItemS k) := by
  refine closed_ok (tab := [(44, fe_laws_szItem k)]) (l := []) ti_ok ti_ht mix (List.forall_mem_cons.2 ⟨ok_laws_szItem k, (List.forall_mem_nil _)⟩) (List.forall_mem_nil _) ⟨⟨Tryz.f15, (codeOf Tryz.f15), [.tmp 4], (laws_szItemS_O k), by kernel_rfl, by kernel_rfl, by kernel_rfl, by kernel_rfl, rfl, by decide, ⟨by kernel_rfl, ?_, ?_⟩, ?_⟩⟩
  · refine loops_of (n := 1) (by kernel_rfl) fun i hi => ?_
    match i, hi with
    | 0, _ => exact loop_of (by kernel_rfl) (laws_szItemS_l0_ok k)
    | n + 1, hi => omega
  · exact no_cuts (by kernel_rfl)
  · rintro ⟨a0, left1⟩
    kernel_rfl
/- 4 loop.example/g01005/laws.szDesk -/
def laws_szDesk (k : Nat) (a0 : (List (List Int) × Int × List Int × List (Int × Int × Int × List Int)) × List Int × (Int × List (Int × Int × Int)) × List Int × (Int × Int × Int × List Int) × (List (List Int × List (List Int))) × (List (List Int) × List Int) × List (List UInt8 × List (List UInt8) × Int × Int)) (left1 : Int) : Option Int := (laws_szSheaf k a0.1 left1).bind fun r_1 => (if (decide (r_1 < 0)) = true then some (-1) else (laws_szInt64S a0.2.1 r_1).bind fun r_2 => (if (decide (r_2 < 0)) = true then some (-1) else (laws_szGraph a0.2.2.1 r_2).bind fun r_3 => (if (decide (r_3 < 0)) = true then some (-1) else (laws_szInt64S a0.2.2.2.1 r_3).bind fun r_4 => (if (decide (r_4 < 0)) = true then some (-1) else (laws_szMatrix a0.2.2.2.2.1 r_4).bind fun r_5 => (if (decide (r_5 < 0)) = true then some (-1) else (laws_szTableS k a0.2.2.2.2.2.1 r_5).bind fun r_6 => (if (decide (r_6 < 0)) = true then some (-1) else (laws_szFiltration k a0.2.2.2.2.2.2.1 r_6).bind fun r_7 => (if (decide (r_7 < 0)) = true then some (-1) else (laws_szItemS k a0.2.2.2.2.2.2.2 r_7).bind fun r_8 => (if (decide (r_8 < 0)) = true then some (-1) else some r_8))))))))
def fe_laws_szDesk (k : Nat) : FE := ⟨(.pr (.st (.pr (.st (.pr (.st (.sl 25 (.sl 2 (.int .i64)))) (.pr (.int .i64) (.pr (.sl 2 (.int .i64)) (.sl 33 (.st (.pr (.int .i64) (.pr (.int .i64) (.pr (.int .i64) (.sl 2 (.int .i64))))))))))) (.pr (.sl 2 (.int .i64)) (.pr (.st (.pr (.int .i64) (.sl 165 (.st (.pr (.int .i64) (.pr (.int .i64) (.int .i64))))))) (.pr (.sl 2 (.int .i64)) (.pr (.st (.pr (.int .i64) (.pr (.int .i64) (.pr (.int .i64) (.sl 2 (.int .i64)))))) (.pr (.sl 96 (.st (.pr (.sl 2 (.int .i64)) (.sl 25 (.sl 2 (.int .i64)))))) (.pr (.st (.pr (.st (.sl 25 (.sl 2 (.int .i64)))) (.sl 2 (.int .i64)))) (.sl 100 (.st (.pr .str (.pr (.sl 9 .str) (.pr (.int .i64) (.int .i64)))))))))))))) (.int .i64)), 1, (.int .i64), fun x => laws_szDesk k x.1 x.2⟩
theorem ok_laws_szDesk (k : Nat) : FnOK Tryz.prog 4 (fe_laws_szDesk k) := by
  refine closed_ok (tab := [(9, fe_laws_szSheaf k), (10, fe_laws_szInt64S), (11, fe_laws_szGraph), (12, fe_laws_szMatrix), (13, fe_laws_szTableS k), (14, fe_laws_szFiltration k), (15, fe_laws_szItemS k)]) (l := []) ti_ok ti_ht mix (List.forall_mem_cons.2 ⟨ok_laws_szSheaf k, (List.forall_mem_cons.2 ⟨ok_laws_szInt64S, (List.forall_mem_cons.2 ⟨ok_laws_szGraph, (List.forall_mem_cons.2 ⟨ok_laws_szMatrix, (List.forall_mem_cons.2 ⟨ok_laws_szTableS k, (List.forall_mem_cons.2 ⟨ok_laws_szFiltration k, (List.forall_mem_cons.2 ⟨ok_laws_szItemS k, (List.forall_mem_nil _)⟩)⟩)⟩)⟩)⟩)⟩)⟩) (List.forall_mem_nil _) ⟨⟨Tryz.f4, (codeOf Tryz.f4), [.tmp 4], (LOn Int), by kernel_rfl, by kernel_rfl, by kernel_rfl, by kernel_rfl, rfl, by decide, ⟨by kernel_rfl, ?_, ?_⟩, ?_⟩⟩
  · exact no_loops (by kernel_rfl)
  · exact no_cuts (by kernel_rfl)
  · rintro ⟨a0, left1⟩
    kernel_rfl
/- 18 loop.example/g01005/laws.toInt64S -/
def laws_toInt64S_l0 (k : Nat) : Nat → (List Int) → Int → (List Int) → ((List Int) → Option (List Int)) → Option (List Int)
  | 0, _, _, _, _ => none
  | n + 1, a0, i4, q_1, e_0 => (if (decide (i4 < (List.length a0 : Int))) = true then (if 0 ≤ i4 then (a0[i4.toNat]?).bind fun y_2 => (if 0 ≤ i4 ∧ i4.toNat < List.length q_1 then (q_1[i4.toNat]?).bind fun y_3 => (q_1[i4.toNat]?).bind fun y_4 => laws_toInt64S_l0 k n a0 (w_i64 (i4 + 1)) (q_1.set i4.toNat y_2) e_0 else none) else none) else e_0 q_1)
def laws_toInt64S (k : Nat) (a0 : List Int) : Option (List Int) := (if 0 ≤ (List.length a0 : Int) ∧ (List.length a0 : Int) ≤ (List.length a0 : Int) ∧ (List.length a0 : Int) * 8 ≤ LIM then laws_toInt64S_l0 k k a0 0 (List.replicate (List.length a0) 0) (fun q_5 => some q_5) else none)
def laws_toInt64S_l0_h : Head := ⟨[(0, (.val (.sl 2 (.int .i64)))), (3, (.ref 64000000 [])), (4, (.val (.int .i64)))], [(64000000, 2, (.int .i64), false)], []⟩
def laws_toInt64S_l0_x0 : Head := ⟨[(3, (.ref 64000000 []))], [(64000000, 2, (.int .i64), false)], []⟩
def laws_toInt64S_l0_F (k n : Nat) (x : laws_toInt64S_l0_h.T) (kx : Nat → St → Option (List Int)) : Option (List Int) := laws_toInt64S_l0 k n x.1.1 x.1.2.2.1 x.2.1.1 (fun (q_5 : List Int) => kx 0 (laws_toInt64S_l0_x0.fill (((), ()), (q_5, ()), ())))
def laws_toInt64S_O (k : Nat) : Oracles (List Int) := ⟨fun n => bif Nat.beq n 3 then some (fun σ kx => laws_toInt64S_l0_h.get σ fun x => laws_toInt64S_l0_F k k x kx) else none, fun _ => none⟩
def fe_laws_toInt64S (k : Nat) : FE := ⟨(.sl 2 (.int .i64)), 1, (.sl 2 (.int .i64)), fun x => laws_toInt64S k x⟩
theorem laws_toInt64S_l0_ok (k : Nat) : LoopOK (mkEnv ti [] (lk []) pins0 pinB0) (laws_toInt64S_O k) (rdC (mkEnv ti [] (lk []) pins0 pinB0) [.tmp 2] (.sl 2 (.int .i64))) ((loopsOf (codeOf Tryz.f18)).getD 0 .skip) (fun σ kx => laws_toInt64S_l0_h.get σ fun x => laws_toInt64S_l0_F k k x kx) := by
  refine ⟨laws_toInt64S_l0_h, [(0, laws_toInt64S_l0_x0)], fun n x kx => laws_toInt64S_l0_F k n x kx, k, by kernel_rfl, by kernel_rfl, fun x kx => by kernel_rfl, ?_, fun σ kx => rfl⟩
  rintro n ⟨⟨a0, ⟨⟩, i4, ⟨⟩⟩, ⟨q_1, ⟨⟩⟩, ⟨⟩⟩ kx
  kernel_rfl
theorem ok_laws_toInt64S (k : Nat) : FnOK Tryz.prog 18 (fe_laws_toInt64S k) := by
  refine closed_ok (tab := []) (l := []) ti_ok ti_ht mix (List.forall_mem_nil _) (List.forall_mem_nil _) ⟨⟨Tryz.f18, (codeOf Tryz.f18), [.tmp 2], (laws_toInt64S_O k), by kernel_rfl, by kernel_rfl, by kernel_rfl, by kernel_rfl, rfl, by decide, ⟨by kernel_rfl, ?_, ?_⟩, ?_⟩⟩
  · refine loops_of (n := 1) (by kernel_rfl) fun i hi => ?_
    match i, hi with
    | 0, _ => exact loop_of (by kernel_rfl) (laws_toInt64S_l0_ok k)
    | n + 1, hi => omega
  · exact no_cuts (by kernel_rfl)
  · rintro a0
    kernel_rfl
/- 105 loop.example/g01005/laws.toInt64SS -/
def laws_toInt64SS_l0 (k : Nat) : Nat → (List (List Int)) → Int → (List (List Int)) → ((List (List Int)) → Option (List (List Int))) → Option (List (List Int))
  | 0, _, _, _, _ => none
  | n + 1, a0, i4, q_1, e_0 => (if (decide (i4 < (List.length a0 : Int))) = true then (if 0 ≤ i4 then (a0[i4.toNat]?).bind fun y_2 => (laws_toInt64S k y_2).bind fun r_3 => (if 0 ≤ i4 ∧ i4.toNat < List.length q_1 then (q_1[i4.toNat]?).bind fun y_4 => (q_1[i4.toNat]?).bind fun y_5 => laws_toInt64SS_l0 k n a0 (w_i64 (i4 + 1)) (q_1.set i4.toNat r_3) e_0 else none) else none) else e_0 q_1)
def laws_toInt64SS (k : Nat) (a0 : List (List Int)) : Option (List (List Int)) := (if 0 ≤ (List.length a0 : Int) ∧ (List.length a0 : Int) ≤ (List.length a0 : Int) ∧ (List.length a0 : Int) * 24 ≤ LIM then laws_toInt64SS_l0 k k a0 0 (List.replicate (List.length a0) ([] : List Int)) (fun q_6 => some q_6) else none)
def laws_toInt64SS_l0_h : Head := ⟨[(0, (.val (.sl 25 (.sl 2 (.int .i64))))), (3, (.ref 64000000 [])), (4, (.val (.int .i64)))], [(64000000, 25, (.sl 2 (.int .i64)), false)], []⟩
def laws_toInt64SS_l0_x0 : Head := ⟨[(3, (.ref 64000000 []))], [(64000000, 25, (.sl 2 (.int .i64)), false)], []⟩
def laws_toInt64SS_l0_F (k n : Nat) (x : laws_toInt64SS_l0_h.T) (kx : Nat → St → Option (List (List Int))) : Option (List (List Int)) := laws_toInt64SS_l0 k n x.1.1 x.1.2.2.1 x.2.1.1 (fun (q_6 : List (List Int)) => kx 0 (laws_toInt64SS_l0_x0.fill (((), ()), (q_6, ()), ())))
def laws_toInt64SS_O (k : Nat) : Oracles (List (List Int)) := ⟨fun n => bif Nat.beq n 3 then some (fun σ kx => laws_toInt64SS_l0_h.get σ fun x => laws_toInt64SS_l0_F k k x kx) else none, fun _ => none⟩
def fe_laws_toInt64SS (k : Nat) : FE := ⟨(.sl 25 (.sl 2 (.int .i64))), 1, (.sl 25 (.sl 2 (.int .i64))), fun x => laws_toInt64SS k x⟩
theorem laws_toInt64SS_l0_ok (k : Nat) : LoopOK (mkEnv ti [(18, fe_laws_toInt64S k)] (lk []) pins0 pinB0) (laws_toInt64SS_O k) (rdC (mkEnv ti [(18, fe_laws_toInt64S k)] (lk []) pins0 pinB0) [.tmp 2] (.sl 25 (.sl 2 (.int .i64)))) ((loopsOf (codeOf Tryz.f105)).getD 0 .skip) (fun σ kx => laws_toInt64SS_l0_h.get σ fun x => laws_toInt64SS_l0_F k k x kx) := by
  refine ⟨laws_toInt64SS_l0_h, [(0, laws_toInt64SS_l0_x0)], fun n x kx => laws_toInt64SS_l0_F k n x kx, k, by kernel_rfl, by kernel_rfl, fun x kx => by kernel_rfl, ?_, fun σ kx => rfl⟩
  rintro n ⟨⟨a0, ⟨⟩, i4, ⟨⟩⟩, ⟨q_1, ⟨⟩⟩, ⟨⟩⟩ kx
  kernel_rfl
theorem ok_laws_toInt64SS (k : Nat) : FnOK Tryz.prog 105 (fe_laws_toInt64SS k) := by
  refine closed_ok (tab := [(18, fe_laws_toInt64S k)]) (l := []) ti_ok ti_ht mix (List.forall_mem_cons.2 ⟨ok_laws_toInt64S k, (List.forall_mem_nil _)⟩) (List.forall_mem_nil _) ⟨⟨Tryz.f105, (codeOf Tryz.f105), [.tmp 2], (laws_toInt64SS_O k), by kernel_rfl, by kernel_rfl, by kernel_rfl, by kernel_rfl, rfl, by decide, ⟨by kernel_rfl, ?_, ?_⟩, ?_⟩⟩
  · refine loops_of (n := 1) (by kernel_rfl) fun i hi => ?_
    match i, hi with
    | 0, _ => exact loop_of (by kernel_rfl) (laws_toInt64SS_l0_ok k)
    | n + 1, hi => omega
  · exact no_cuts (by kernel_rfl)
  · rintro a0
    kernel_rfl
/- 54 loop.example/g01005/laws.toComplex -/
def laws_toComplex (k : Nat) (a0 : List (List Int)) : Option (List (List Int)) := (laws_toInt64SS k a0).bind fun r_1 => some r_1
def fe_laws_toComplex (k : Nat) : FE := ⟨(.st (.sl 25 (.sl 2 (.int .i64)))), 1, (.st (.sl 25 (.sl 2 (.int .i64)))), fun x => laws_toComplex k x⟩
theorem ok_laws_toComplex (k : Nat) : FnOK Tryz.prog 54 (fe_laws_toComplex k) := by
  refine closed_ok (tab := [(105, fe_laws_toInt64SS k)]) (l := []) ti_ok ti_ht mix (List.forall_mem_cons.2 ⟨ok_laws_toInt64SS k, (List.forall_mem_nil _)⟩) (List.forall_mem_nil _) ⟨⟨Tryz.f54, (codeOf Tryz.f54), [.cell 2 42], (LOn (List (List Int))), by kernel_rfl, by kernel_rfl, by kernel_rfl, by kernel_rfl, rfl, by decide, ⟨by kernel_rfl, ?_, ?_⟩, ?_⟩⟩
  · exact no_loops (by kernel_rfl)
  · exact no_cuts (by kernel_rfl)
  · rintro a0
    kernel_rfl
/- 20 loop.example/g01005/laws.toMatrix -/
def laws_toMatrix (k : Nat) (a0 : Int × Int × Int × List Int) : Option (Int × Int × Int × List Int) := (laws_toInt64S k a0.2.2.2).bind fun r_1 => some (a0.1, (a0.2.1, (a0.2.2.1, r_1)))
def fe_laws_toMatrix (k : Nat) : FE := ⟨(.st (.pr (.int .i64) (.pr (.int .i64) (.pr (.int .i64) (.sl 2 (.int .i64)))))), 1, (.st (.pr (.int .i64) (.pr (.int .i64) (.pr (.int .i64) (.sl 2 (.int .i64)))))), fun x => laws_toMatrix k x⟩
theorem ok_laws_toMatrix (k : Nat) : FnOK Tryz.prog 20 (fe_laws_toMatrix k) := by
  refine closed_ok (tab := [(18, fe_laws_toInt64S k)]) (l := []) ti_ok ti_ht mix (List.forall_mem_cons.2 ⟨ok_laws_toInt64S k, (List.forall_mem_nil _)⟩) (List.forall_mem_nil _) ⟨⟨Tryz.f20, (codeOf Tryz.f20), [.cell 2 49], (LOn (Int × Int × Int × List Int)), by kernel_rfl, by kernel_rfl, by kernel_rfl, by kernel_rfl, rfl, by decide, ⟨by kernel_rfl, ?_, ?_⟩, ?_⟩⟩
  · exact no_loops (by kernel_rfl)
  · exact no_cuts (by kernel_rfl)
  · rintro a0
    kernel_rfl
/- 55 loop.example/g01005/laws.toMatrixS -/
def laws_toMatrixS_l0 (k : Nat) : Nat → (List (Int × Int × Int × List Int)) → Int → (List (Int × Int × Int × List Int)) → ((List (Int × Int × Int × List Int)) → Option (List (Int × Int × Int × List Int))) → Option (List (Int × Int × Int × List Int))
  | 0, _, _, _, _ => none
  | n + 1, a0, i4, q_1, e_0 => (if (decide (i4 < (List.length a0 : Int))) = true then (if 0 ≤ i4 then (a0[i4.toNat]?).bind fun y_2 => (laws_toMatrix k y_2).bind fun r_3 => (if 0 ≤ i4 ∧ i4.toNat < List.length q_1 then (q_1[i4.toNat]?).bind fun y_4 => (q_1[i4.toNat]?).bind fun y_5 => laws_toMatrixS_l0 k n a0 (w_i64 (i4 + 1)) (q_1.set i4.toNat (r_3.1, (r_3.2.1, (r_3.2.2.1, r_3.2.2.2)))) e_0 else none) else none) else e_0 q_1)
def laws_toMatrixS (k : Nat) (a0 : List (Int × Int × Int × List Int)) : Option (List (Int × Int × Int × List Int)) := (if 0 ≤ (List.length a0 : Int) ∧ (List.length a0 : Int) ≤ (List.length a0 : Int) ∧ (List.length a0 : Int) * 48 ≤ LIM then laws_toMatrixS_l0 k k a0 0 (List.replicate (List.length a0) (0, (0, (0, [])))) (fun q_6 => some q_6) else none)
def laws_toMatrixS_l0_h : Head := ⟨[(0, (.val (.sl 33 (.st (.pr (.int .i64) (.pr (.int .i64) (.pr (.int .i64) (.sl 2 (.int .i64))))))))), (3, (.ref 64000000 [])), (4, (.val (.int .i64)))], [(64000000, 49, (.st (.pr (.int .i64) (.pr (.int .i64) (.pr (.int .i64) (.sl 2 (.int .i64)))))), false)], []⟩
def laws_toMatrixS_l0_x0 : Head := ⟨[(3, (.ref 64000000 []))], [(64000000, 49, (.st (.pr (.int .i64) (.pr (.int .i64) (.pr (.int .i64) (.sl 2 (.int .i64)))))), false)], []⟩
def laws_toMatrixS_l0_F (k n : Nat) (x : laws_toMatrixS_l0_h.T) (kx : Nat → St → Option (List (Int × Int × Int × List Int))) : Option (List (Int × Int × Int × List Int)) := laws_toMatrixS_l0 k n x.1.1 x.1.2.2.1 x.2.1.1 (fun (q_6 : List (Int × Int × Int × List Int)) => kx 0 (laws_toMatrixS_l0_x0.fill (((), ()), (q_6, ()), ())))
def laws_toMatrixS_O (k : Nat) : Oracles (List (Int × Int × Int × List Int)) := ⟨fun n => bif Nat.beq n 3 then some (fun σ kx => laws_toMatrixS_l0_h.get σ fun x => laws_toMatrixS_l0_F k k x kx) else none, fun _ => none⟩
def fe_laws_toMatrixS (k : Nat) : FE := ⟨(.sl 33 (.st (.pr (.int .i64) (.pr (.int .i64) (.pr (.int .i64) (.sl 2 (.int .i64))))))), 1, (.sl 49 (.st (.pr (.int .i64) (.pr (.int .i64) (.pr (.int .i64) (.sl 2 (.int .i64))))))), fun x => laws_toMatrixS k x⟩
theorem laws_toMatrixS_l0_ok (k : Nat) : LoopOK (mkEnv ti [(20, fe_laws_toMatrix k)] (lk []) pins0 pinB0) (laws_toMatrixS_O k) (rdC (mkEnv ti [(20, fe_laws_toMatrix k)] (lk []) pins0 pinB0) [.tmp 2] (.sl 49 (.st (.pr (.int .i64) (.pr (.int .i64) (.pr (.int .i64) (.sl 2 (.int .i64)))))))) ((loopsOf (codeOf Tryz.f55)).getD 0 .skip) (fun σ kx => laws_toMatrixS_l0_h.get σ fun x => laws_toMatrixS_l0_F k k x kx) := by
  refine ⟨laws_toMatrixS_l0_h, [(0, laws_toMatrixS_l0_x0)], fun n x kx => laws_toMatrixS_l0_F k n x kx, k, by kernel_rfl, by kernel_rfl, fun x kx => by kernel_rfl, ?_, fun σ kx => rfl⟩
  rintro n ⟨⟨a0, ⟨⟩, i4, ⟨⟩⟩, ⟨q_1, ⟨⟩⟩, ⟨⟩⟩ kx
  kernel_rfl
theorem ok_laws_toMatrixS (k : Nat) : FnOK Tryz.prog 55 (fe_laws_toMatrixS k) := by
  refine closed_ok (tab := [(20, fe_laws_toMatrix k)]) (l := []) ti_ok ti_ht mix (List.forall_mem_cons.2 ⟨ok_laws_toMatrix k, (List.forall_mem_nil _)⟩) (List.forall_mem_nil _) ⟨⟨Tryz.f55, (codeOf Tryz.f55), [.tmp 2], (laws_toMatrixS_O k), by kernel_rfl, by kernel_rfl, by kernel_rfl, by kernel_rfl, rfl, by decide, ⟨by kernel_rfl, ?_, ?_⟩, ?_⟩⟩
  · refine loops_of (n := 1) (by kernel_rfl) fun i hi => ?_
    match i, hi with
    | 0, _ => exact loop_of (by kernel_rfl) (laws_toMatrixS_l0_ok k)
    | n + 1, hi => omega
  · exact no_cuts (by kernel_rfl)
  · rintro a0
    kernel_rfl
/- 17 loop.example/g01005/laws.toSheaf -/
def laws_toSheaf (k : Nat) (a0 : List (List Int) × Int × List Int × List (Int × Int × Int × List Int)) : Option (List (List Int) × Int × List Int × List (Int × Int × Int × List Int)) := (laws_toComplex k a0.1).bind fun r_1 => (laws_toInt64S k a0.2.2.1).bind fun r_2 => (laws_toMatrixS k a0.2.2.2).bind fun r_3 => some (r_1, (a0.2.1, (r_2, r_3)))
def fe_laws_toSheaf (k : Nat) : FE := ⟨(.st (.pr (.st (.sl 25 (.sl 2 (.int .i64)))) (.pr (.int .i64) (.pr (.sl 2 (.int .i64)) (.sl 33 (.st (.pr (.int .i64) (.pr (.int .i64) (.pr (.int .i64) (.sl 2 (.int .i64))))))))))), 1, (.st (.pr (.st (.sl 25 (.sl 2 (.int .i64)))) (.pr (.int .i64) (.pr (.sl 2 (.int .i64)) (.sl 49 (.st (.pr (.int .i64) (.pr (.int .i64) (.pr (.int .i64) (.sl 2 (.int .i64))))))))))), fun x => laws_toSheaf k x⟩
theorem ok_laws_toSheaf (k : Nat) : FnOK Tryz.prog 17 (fe_laws_toSheaf k) := by
  refine closed_ok (tab := [(54, fe_laws_toComplex k), (18, fe_laws_toInt64S k), (55, fe_laws_toMatrixS k)]) (l := []) ti_ok ti_ht mix (List.forall_mem_cons.2 ⟨ok_laws_toComplex k, (List.forall_mem_cons.2 ⟨ok_laws_toInt64S k, (List.forall_mem_cons.2 ⟨ok_laws_toMatrixS k, (List.forall_mem_nil _)⟩)⟩)⟩) (List.forall_mem_nil _) ⟨⟨Tryz.f17, (codeOf Tryz.f17), [.cell 2 45], (LOn (List (List Int) × Int × List Int × List (Int × Int × Int × List Int))), by kernel_rfl, by kernel_rfl, by kernel_rfl, by kernel_rfl, rfl, by decide, ⟨by kernel_rfl, ?_, ?_⟩, ?_⟩⟩
  · exact no_loops (by kernel_rfl)
  · exact no_cuts (by kernel_rfl)
  · rintro a0
    kernel_rfl
/- 106 loop.example/g01005/laws.toEdge -/
def laws_toEdge (a0 : Int × Int × Int) : Option (Int × Int × Int) := some (a0.1, (a0.2.1, a0.2.2))
def fe_laws_toEdge : FE := ⟨(.st (.pr (.int .i64) (.pr (.int .i64) (.int .i64)))), 1, (.st (.pr (.int .i64) (.pr (.int .i64) (.int .i64)))), fun x => laws_toEdge x⟩
theorem ok_laws_toEdge : FnOK Tryz.prog 106 (fe_laws_toEdge) := by
  refine closed_ok (tab := []) (l := []) ti_ok ti_ht mix (List.forall_mem_nil _) (List.forall_mem_nil _) ⟨⟨Tryz.f106, (codeOf Tryz.f106), [.cell 2 128], (LOn (Int × Int × Int)), by kernel_rfl, by kernel_rfl, by kernel_rfl, by kernel_rfl, rfl, by decide, ⟨by kernel_rfl, ?_, ?_⟩, ?_⟩⟩
  · exact no_loops (by kernel_rfl)
  · exact no_cuts (by kernel_rfl)
  · rintro a0
    kernel_rfl
end
end Go.Proofs.YtmmkijdfiaaobaaGreat.Ev
