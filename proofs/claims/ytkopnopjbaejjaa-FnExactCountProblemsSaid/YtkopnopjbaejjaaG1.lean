/- Functions of the program, as plain ones. No conditions. -/
import Derived.Test.YtkopnopjbaejjaaG0
import Derived.KernelRfl
set_option linter.unusedVariables false
set_option maxRecDepth 100000
namespace Go.Proofs.Ytkopnopjbaejjaa.Ev
open Go.RowKit
noncomputable section
/- 63 loop.example/g01005/laws.szProblem -/
def laws_szProblem (a0 : Int × List UInt8 × List UInt8) (left1 : Int) : Option Int := (if (decide ((w_i64 (left1 - (List.length a0.2.1 : Int))) < 0)) = true then some (-1) else (if (decide ((w_i64 ((w_i64 (left1 - (List.length a0.2.1 : Int))) - (List.length a0.2.2 : Int))) < 0)) = true then some (-1) else some (w_i64 ((w_i64 (left1 - (List.length a0.2.1 : Int))) - (List.length a0.2.2 : Int)))))
def fe_laws_szProblem : FE := ⟨(.pr (.st (.pr (.int .i64) (.pr .str .str))) (.int .i64)), 1, (.int .i64), fun x => laws_szProblem x.1 x.2⟩
theorem ok_laws_szProblem : FnOK Try.prog 63 (fe_laws_szProblem) := by
  refine closed_ok (tab := []) (l := []) ti_ok ti_ht mix (List.forall_mem_nil _) (List.forall_mem_nil _) ⟨⟨Try.f63, (codeOf Try.f63), [.tmp 4], (LOn Int), by kernel_rfl, by kernel_rfl, by kernel_rfl, by kernel_rfl, rfl, by decide, ⟨by kernel_rfl, ?_, ?_⟩, ?_⟩⟩
  · exact no_loops (by kernel_rfl)
  · exact no_cuts (by kernel_rfl)
  · rintro ⟨a0, left1⟩
    kernel_rfl
/- 14 loop.example/g01005/laws.szProblemS -/
def laws_szProblemS_l0 (k : Nat) : Nat → (List (Int × List UInt8 × List UInt8)) → Int → Int → (Int → Option Int) → Option Int
  | 0, _, _, _, _ => none
  | n + 1, a0, left1, i5, e_0 => (if (decide (i5 < (List.length a0 : Int))) = true then (if 0 ≤ i5 then (a0[i5.toNat]?).bind fun y_1 => (laws_szProblem y_1 left1).bind fun r_2 => (if (decide (r_2 < 0)) = true then some (-1) else laws_szProblemS_l0 k n a0 r_2 (w_i64 (i5 + 1)) e_0) else none) else e_0 left1)
def laws_szProblemS (k : Nat) (a0 : List (Int × List UInt8 × List UInt8)) (left1 : Int) : Option Int := (if (decide ((w_i64 (left1 - (List.length a0 : Int))) < 0)) = true then some (-1) else laws_szProblemS_l0 k k a0 (w_i64 (left1 - (List.length a0 : Int))) 0 (fun left_3 => some left_3))
def laws_szProblemS_l0_h : Head := ⟨[(0, (.val (.sl 86 (.st (.pr (.int .i64) (.pr .str .str)))))), (1, (.val (.int .i64))), (5, (.val (.int .i64)))], [], []⟩
def laws_szProblemS_l0_x0 : Head := ⟨[(1, (.val (.int .i64)))], [], []⟩
def laws_szProblemS_l0_F (k n : Nat) (x : laws_szProblemS_l0_h.T) (kx : Nat → St → Option Int) : Option Int := laws_szProblemS_l0 k n x.1.1 x.1.2.1 x.1.2.2.1 (fun (left1 : Int) => kx 0 (laws_szProblemS_l0_x0.fill ((left1, ()), (), ())))
def laws_szProblemS_O (k : Nat) : Oracles Int := ⟨fun n => bif Nat.beq n 5 then some (fun σ kx => laws_szProblemS_l0_h.get σ fun x => laws_szProblemS_l0_F k k x kx) else none, fun _ => none⟩
def fe_laws_szProblemS (k : Nat) : FE := ⟨(.pr (.sl 86 (.st (.pr (.int .i64) (.pr .str .str)))) (.int .i64)), 1, (.int .i64), fun x => laws_szProblemS k x.1 x.2⟩
theorem laws_szProblemS_l0_ok (k : Nat) : LoopOK (mkEnv ti [(63, fe_laws_szProblem)] (lk []) pins0 pinB0) (laws_szProblemS_O k) (rdC (mkEnv ti [(63, fe_laws_szProblem)] (lk []) pins0 pinB0) [.tmp 4] (.int .i64)) ((loopsOf (codeOf Try.f14)).getD 0 .skip) (fun σ kx => laws_szProblemS_l0_h.get σ fun x => laws_szProblemS_l0_F k k x kx) := by
  refine ⟨laws_szProblemS_l0_h, [(0, laws_szProblemS_l0_x0)], fun n x kx => laws_szProblemS_l0_F k n x kx, k, by kernel_rfl, by kernel_rfl, fun x kx => by kernel_rfl, ?_, fun σ kx => rfl⟩
  rintro n ⟨⟨a0, left1, i5, ⟨⟩⟩, ⟨⟩, ⟨⟩⟩ kx
  kernel_rfl
theorem ok_laws_szProblemS (k : Nat) : FnOK Try.prog 14 (fe_laws_szProblemS k) := by
  refine closed_ok (tab := [(63, fe_laws_szProblem)]) (l := []) ti_ok ti_ht mix (List.forall_mem_cons.2 ⟨ok_laws_szProblem, (List.forall_mem_nil _)⟩) (List.forall_mem_nil _) ⟨⟨Try.f14, (codeOf Try.f14), [.tmp 4], (laws_szProblemS_O k), by kernel_rfl, by kernel_rfl, by kernel_rfl, by kernel_rfl, rfl, by decide, ⟨by kernel_rfl, ?_, ?_⟩, ?_⟩⟩
  · refine loops_of (n := 1) (by kernel_rfl) fun i hi => ?_
    match i, hi with
    | 0, _ => exact loop_of (by kernel_rfl) (laws_szProblemS_l0_ok k)
    | n + 1, hi => omega
  · exact no_cuts (by kernel_rfl)
  · rintro ⟨a0, left1⟩
    kernel_rfl
/- 65 loop.example/g01005/laws.toProblem -/
def laws_toProblem (a0 : Int × List UInt8 × List UInt8) : Option (Int × List UInt8 × List UInt8) := some (a0.1, (a0.2.1, a0.2.2))
def fe_laws_toProblem : FE := ⟨(.st (.pr (.int .i64) (.pr .str .str))), 1, (.st (.pr (.int .i64) (.pr .str .str))), fun x => laws_toProblem x⟩
theorem ok_laws_toProblem : FnOK Try.prog 65 (fe_laws_toProblem) := by
  refine closed_ok (tab := []) (l := []) ti_ok ti_ht mix (List.forall_mem_nil _) (List.forall_mem_nil _) ⟨⟨Try.f65, (codeOf Try.f65), [.cell 2 88], (LOn (Int × List UInt8 × List UInt8)), by kernel_rfl, by kernel_rfl, by kernel_rfl, by kernel_rfl, rfl, by decide, ⟨by kernel_rfl, ?_, ?_⟩, ?_⟩⟩
  · exact no_loops (by kernel_rfl)
  · exact no_cuts (by kernel_rfl)
  · rintro a0
    kernel_rfl
/- 16 loop.example/g01005/laws.toProblemS -/
def laws_toProblemS_l0 (k : Nat) : Nat → (List (Int × List UInt8 × List UInt8)) → Int → (List (Int × List UInt8 × List UInt8)) → ((List (Int × List UInt8 × List UInt8)) → Option (List (Int × List UInt8 × List UInt8))) → Option (List (Int × List UInt8 × List UInt8))
  | 0, _, _, _, _ => none
  | n + 1, a0, i4, q_1, e_0 => (if (decide (i4 < (List.length a0 : Int))) = true then (if 0 ≤ i4 then (a0[i4.toNat]?).bind fun y_2 => (laws_toProblem y_2).bind fun r_3 => (if 0 ≤ i4 ∧ i4.toNat < List.length q_1 then (q_1[i4.toNat]?).bind fun y_4 => (q_1[i4.toNat]?).bind fun y_5 => laws_toProblemS_l0 k n a0 (w_i64 (i4 + 1)) (q_1.set i4.toNat r_3) e_0 else none) else none) else e_0 q_1)
def laws_toProblemS (k : Nat) (a0 : List (Int × List UInt8 × List UInt8)) : Option (List (Int × List UInt8 × List UInt8)) := (if 0 ≤ (List.length a0 : Int) ∧ (List.length a0 : Int) ≤ (List.length a0 : Int) ∧ (List.length a0 : Int) * 40 ≤ LIM then laws_toProblemS_l0 k k a0 0 (List.replicate (List.length a0) (0, ([], []))) (fun q_6 => some q_6) else none)
def laws_toProblemS_l0_h : Head := ⟨[(0, (.val (.sl 86 (.st (.pr (.int .i64) (.pr .str .str)))))), (3, (.ref 64000000 [])), (4, (.val (.int .i64)))], [(64000000, 88, (.st (.pr (.int .i64) (.pr .str .str))), false)], []⟩
def laws_toProblemS_l0_x0 : Head := ⟨[(3, (.ref 64000000 []))], [(64000000, 88, (.st (.pr (.int .i64) (.pr .str .str))), false)], []⟩
def laws_toProblemS_l0_F (k n : Nat) (x : laws_toProblemS_l0_h.T) (kx : Nat → St → Option (List (Int × List UInt8 × List UInt8))) : Option (List (Int × List UInt8 × List UInt8)) := laws_toProblemS_l0 k n x.1.1 x.1.2.2.1 x.2.1.1 (fun (q_6 : List (Int × List UInt8 × List UInt8)) => kx 0 (laws_toProblemS_l0_x0.fill (((), ()), (q_6, ()), ())))
def laws_toProblemS_O (k : Nat) : Oracles (List (Int × List UInt8 × List UInt8)) := ⟨fun n => bif Nat.beq n 3 then some (fun σ kx => laws_toProblemS_l0_h.get σ fun x => laws_toProblemS_l0_F k k x kx) else none, fun _ => none⟩
def fe_laws_toProblemS (k : Nat) : FE := ⟨(.sl 86 (.st (.pr (.int .i64) (.pr .str .str)))), 1, (.sl 88 (.st (.pr (.int .i64) (.pr .str .str)))), fun x => laws_toProblemS k x⟩
theorem laws_toProblemS_l0_ok (k : Nat) : LoopOK (mkEnv ti [(65, fe_laws_toProblem)] (lk []) pins0 pinB0) (laws_toProblemS_O k) (rdC (mkEnv ti [(65, fe_laws_toProblem)] (lk []) pins0 pinB0) [.tmp 2] (.sl 88 (.st (.pr (.int .i64) (.pr .str .str))))) ((loopsOf (codeOf Try.f16)).getD 0 .skip) (fun σ kx => laws_toProblemS_l0_h.get σ fun x => laws_toProblemS_l0_F k k x kx) := by
  refine ⟨laws_toProblemS_l0_h, [(0, laws_toProblemS_l0_x0)], fun n x kx => laws_toProblemS_l0_F k n x kx, k, by kernel_rfl, by kernel_rfl, fun x kx => by kernel_rfl, ?_, fun σ kx => rfl⟩
  rintro n ⟨⟨a0, ⟨⟩, i4, ⟨⟩⟩, ⟨q_1, ⟨⟩⟩, ⟨⟩⟩ kx
  kernel_rfl
theorem ok_laws_toProblemS (k : Nat) : FnOK Try.prog 16 (fe_laws_toProblemS k) := by
  refine closed_ok (tab := [(65, fe_laws_toProblem)]) (l := []) ti_ok ti_ht mix (List.forall_mem_cons.2 ⟨ok_laws_toProblem, (List.forall_mem_nil _)⟩) (List.forall_mem_nil _) ⟨⟨Try.f16, (codeOf Try.f16), [.tmp 2], (laws_toProblemS_O k), by kernel_rfl, by kernel_rfl, by kernel_rfl, by kernel_rfl, rfl, by decide, ⟨by kernel_rfl, ?_, ?_⟩, ?_⟩⟩
  · refine loops_of (n := 1) (by kernel_rfl) fun i hi => ?_
    match i, hi with
    | 0, _ => exact loop_of (by kernel_rfl) (laws_toProblemS_l0_ok k)
    | n + 1, hi => omega
  · exact no_cuts (by kernel_rfl)
  · rintro a0
    kernel_rfl
/- 86 loop.example/g01005/spec.l00In -/
def spec_l00In (n0 : Int) (low1 : Int) (high2 : Int) : Option Bool := (if (decide (low1 ≤ n0)) = true then some (decide (n0 ≤ high2)) else some false)
def fe_spec_l00In : FE := ⟨(.pr (.int .i64) (.pr (.int .i64) (.int .i64))), 1, .bool, fun x => spec_l00In x.1 x.2.1 x.2.2⟩
theorem ok_spec_l00In : FnOK Try.prog 86 (fe_spec_l00In) := by
  refine closed_ok (tab := []) (l := []) ti_ok ti_ht mix (List.forall_mem_nil _) (List.forall_mem_nil _) ⟨⟨Try.f86, (codeOf Try.f86), [.tmp 6], (LOn Bool), by kernel_rfl, by kernel_rfl, by kernel_rfl, by kernel_rfl, rfl, by decide, ⟨by kernel_rfl, ?_, ?_⟩, ?_⟩⟩
  · exact no_loops (by kernel_rfl)
  · exact no_cuts (by kernel_rfl)
  · rintro ⟨n0, low1, high2⟩
    kernel_rfl
/- 64 loop.example/g01005/spec.l31Kind -/
def spec_l31Kind (kind0 : Int) : Option Bool := (spec_l00In kind0 1 5).bind fun r_1 => some r_1
def fe_spec_l31Kind : FE := ⟨(.int .i64), 1, .bool, fun x => spec_l31Kind x⟩
theorem ok_spec_l31Kind : FnOK Try.prog 64 (fe_spec_l31Kind) := by
  refine closed_ok (tab := [(86, fe_spec_l00In)]) (l := []) ti_ok ti_ht mix (List.forall_mem_cons.2 ⟨ok_spec_l00In, (List.forall_mem_nil _)⟩) (List.forall_mem_nil _) ⟨⟨Try.f64, (codeOf Try.f64), [.tmp 2], (LOn Bool), by kernel_rfl, by kernel_rfl, by kernel_rfl, by kernel_rfl, rfl, by decide, ⟨by kernel_rfl, ?_, ?_⟩, ?_⟩⟩
  · exact no_loops (by kernel_rfl)
  · exact no_cuts (by kernel_rfl)
  · rintro kind0
    kernel_rfl
/- 15 loop.example/g01005/spec.CountProblems -/
def spec_CountProblems_l0 (k : Nat) : Nat → (List (Int × List UInt8 × List UInt8)) → Int → (List Int) → ((List Int) → Option (List Int)) → Option (List Int)
  | 0, _, _, _, _ => none
  | n + 1, list0, i4, q_1, e_0 => (if (decide (i4 < (List.length list0 : Int))) = true then (if 0 ≤ i4 then (list0[i4.toNat]?).bind fun y_2 => (spec_l31Kind y_2.1).bind fun r_3 => (if r_3 = true then (if 0 ≤ i4 then (list0[i4.toNat]?).bind fun y_4 => (if 0 ≤ y_4.1 ∧ y_4.1.toNat < List.length q_1 then (q_1[y_4.1.toNat]?).bind fun y_5 => (if 0 ≤ y_4.1 ∧ y_4.1.toNat < List.length q_1 then (q_1[y_4.1.toNat]?).bind fun y_6 => (q_1[y_4.1.toNat]?).bind fun y_7 => (if 0 ≤ (0 : Int) ∧ 0 < List.length (q_1.set y_4.1.toNat (w_i64 (y_5 + 1))) then ((q_1.set y_4.1.toNat (w_i64 (y_5 + 1)))[0]?).bind fun y_8 => (if 0 ≤ (0 : Int) ∧ 0 < List.length (q_1.set y_4.1.toNat (w_i64 (y_5 + 1))) then ((q_1.set y_4.1.toNat (w_i64 (y_5 + 1)))[0]?).bind fun y_9 => ((q_1.set y_4.1.toNat (w_i64 (y_5 + 1)))[0]?).bind fun y_10 => spec_CountProblems_l0 k n list0 (w_i64 (i4 + 1)) ((q_1.set y_4.1.toNat (w_i64 (y_5 + 1))).set 0 (w_i64 (y_8 + 1))) e_0 else none) else none) else none) else none) else none) else spec_CountProblems_l0 k n list0 (w_i64 (i4 + 1)) q_1 e_0) else none) else e_0 q_1)
def spec_CountProblems (k : Nat) (list0 : List (Int × List UInt8 × List UInt8)) : Option (List Int) := (if 0 ≤ (6 : Int) ∧ (6 : Int) ≤ 6 ∧ (6 : Int) * 8 ≤ LIM then spec_CountProblems_l0 k k list0 0 (List.replicate 6 0) (fun q_11 => some q_11) else none)
def spec_CountProblems_l0_h : Head := ⟨[(0, (.val (.sl 88 (.st (.pr (.int .i64) (.pr .str .str)))))), (3, (.ref 64000000 [])), (4, (.val (.int .i64)))], [(64000000, 2, (.int .i64), false)], []⟩
def spec_CountProblems_l0_x0 : Head := ⟨[(3, (.ref 64000000 []))], [(64000000, 2, (.int .i64), false)], []⟩
def spec_CountProblems_l0_F (k n : Nat) (x : spec_CountProblems_l0_h.T) (kx : Nat → St → Option (List Int)) : Option (List Int) := spec_CountProblems_l0 k n x.1.1 x.1.2.2.1 x.2.1.1 (fun (q_11 : List Int) => kx 0 (spec_CountProblems_l0_x0.fill (((), ()), (q_11, ()), ())))
def spec_CountProblems_O (k : Nat) : Oracles (List Int) := ⟨fun n => bif Nat.beq n 3 then some (fun σ kx => spec_CountProblems_l0_h.get σ fun x => spec_CountProblems_l0_F k k x kx) else none, fun _ => none⟩
def fe_spec_CountProblems (k : Nat) : FE := ⟨(.sl 88 (.st (.pr (.int .i64) (.pr .str .str)))), 1, (.sl 2 (.int .i64)), fun x => spec_CountProblems k x⟩
theorem spec_CountProblems_l0_ok (k : Nat) : LoopOK (mkEnv ti [(64, fe_spec_l31Kind)] (lk []) pins0 pinB0) (spec_CountProblems_O k) (rdC (mkEnv ti [(64, fe_spec_l31Kind)] (lk []) pins0 pinB0) [.tmp 2] (.sl 2 (.int .i64))) ((loopsOf (codeOf Try.f15)).getD 0 .skip) (fun σ kx => spec_CountProblems_l0_h.get σ fun x => spec_CountProblems_l0_F k k x kx) := by
  refine ⟨spec_CountProblems_l0_h, [(0, spec_CountProblems_l0_x0)], fun n x kx => spec_CountProblems_l0_F k n x kx, k, by kernel_rfl, by kernel_rfl, fun x kx => by kernel_rfl, ?_, fun σ kx => rfl⟩
  rintro n ⟨⟨list0, ⟨⟩, i4, ⟨⟩⟩, ⟨q_1, ⟨⟩⟩, ⟨⟩⟩ kx
  kernel_rfl
theorem ok_spec_CountProblems (k : Nat) : FnOK Try.prog 15 (fe_spec_CountProblems k) := by
  refine closed_ok (tab := [(64, fe_spec_l31Kind)]) (l := []) ti_ok ti_ht mix (List.forall_mem_cons.2 ⟨ok_spec_l31Kind, (List.forall_mem_nil _)⟩) (List.forall_mem_nil _) ⟨⟨Try.f15, (codeOf Try.f15), [.tmp 2], (spec_CountProblems_O k), by kernel_rfl, by kernel_rfl, by kernel_rfl, by kernel_rfl, rfl, by decide, ⟨by kernel_rfl, ?_, ?_⟩, ?_⟩⟩
  · refine loops_of (n := 1) (by kernel_rfl) fun i hi => ?_
    match i, hi with
    | 0, _ => exact loop_of (by kernel_rfl) (spec_CountProblems_l0_ok k)
    | n + 1, hi => omega
  · exact no_cuts (by kernel_rfl)
  · rintro list0
    kernel_rfl
/- 67 slices.Clone[[]loop.example/g01005/impl.Problem,loop.example/g01005/impl.Problem] -/
def slices_Clone_impl_Problem (s0 : List (Int × List UInt8 × List UInt8)) : Option (List (Int × List UInt8 × List UInt8)) := (if List.isEmpty s0 = true then both (some []) ((if (([] : List Unit).length + s0.length) * 40 ≤ LIM then some s0 else none)) else (if (([] : List Unit).length + s0.length) * 40 ≤ LIM then some s0 else none))
def fe_slices_Clone_impl_Problem : FE := ⟨(.sl 88 (.st (.pr (.int .i64) (.pr .str .str)))), 1, (.sl 88 (.st (.pr (.int .i64) (.pr .str .str)))), fun x => slices_Clone_impl_Problem x⟩
theorem ok_slices_Clone_impl_Problem : FnOK Try.prog 67 (fe_slices_Clone_impl_Problem) := by
  refine closed_ok (tab := []) (l := []) ti_ok ti_ht mix (List.forall_mem_nil _) (List.forall_mem_nil _) ⟨⟨Try.f67, (codeOf Try.f67), [.tmp 2], (LOn (List (Int × List UInt8 × List UInt8))), by kernel_rfl, by kernel_rfl, by kernel_rfl, by kernel_rfl, rfl, by decide, ⟨by kernel_rfl, ?_, ?_⟩, ?_⟩⟩
  · exact no_loops (by kernel_rfl)
  · exact no_cuts (by kernel_rfl)
  · rintro s0
    kernel_rfl
/- 88 loop.example/g01005/impl.within -/
def impl_within (n0 : Int) (low1 : Int) (high2 : Int) : Option Bool := (if (decide (low1 ≤ n0)) = true then some (decide (n0 ≤ high2)) else some false)
def fe_impl_within : FE := ⟨(.pr (.int .i64) (.pr (.int .i64) (.int .i64))), 1, .bool, fun x => impl_within x.1 x.2.1 x.2.2⟩
theorem ok_impl_within : FnOK Try.prog 88 (fe_impl_within) := by
  refine closed_ok (tab := []) (l := []) ti_ok ti_ht mix (List.forall_mem_nil _) (List.forall_mem_nil _) ⟨⟨Try.f88, (codeOf Try.f88), [.tmp 6], (LOn Bool), by kernel_rfl, by kernel_rfl, by kernel_rfl, by kernel_rfl, rfl, by decide, ⟨by kernel_rfl, ?_, ?_⟩, ?_⟩⟩
  · exact no_loops (by kernel_rfl)
  · exact no_cuts (by kernel_rfl)
  · rintro ⟨n0, low1, high2⟩
    kernel_rfl
/- 69 loop.example/g01005/impl.isProblem -/
def impl_isProblem (kind0 : Int) : Option Bool := (impl_within kind0 1 5).bind fun r_1 => some r_1
def fe_impl_isProblem : FE := ⟨(.int .i64), 1, .bool, fun x => impl_isProblem x⟩
theorem ok_impl_isProblem : FnOK Try.prog 69 (fe_impl_isProblem) := by
  refine closed_ok (tab := [(88, fe_impl_within)]) (l := []) ti_ok ti_ht mix (List.forall_mem_cons.2 ⟨ok_impl_within, (List.forall_mem_nil _)⟩) (List.forall_mem_nil _) ⟨⟨Try.f69, (codeOf Try.f69), [.tmp 2], (LOn Bool), by kernel_rfl, by kernel_rfl, by kernel_rfl, by kernel_rfl, rfl, by decide, ⟨by kernel_rfl, ?_, ?_⟩, ?_⟩⟩
  · exact no_loops (by kernel_rfl)
  · exact no_cuts (by kernel_rfl)
  · rintro kind0
    kernel_rfl
/- 68 loop.example/g01005/impl.CountProblems$1 -/
def impl_CountProblems_1 (x0 : Int × List UInt8 × List UInt8) : Option Bool := (impl_isProblem x0.1).bind fun r_1 => some (!r_1)
def fe_impl_CountProblems_1 : FE := ⟨(.st (.pr (.int .i64) (.pr .str .str))), 1, .bool, fun x => impl_CountProblems_1 x⟩
theorem ok_impl_CountProblems_1 : FnOK Try.prog 68 (fe_impl_CountProblems_1) := by
  refine closed_ok (tab := [(69, fe_impl_isProblem)]) (l := []) ti_ok ti_ht mix (List.forall_mem_cons.2 ⟨ok_impl_isProblem, (List.forall_mem_nil _)⟩) (List.forall_mem_nil _) ⟨⟨Try.f68, (codeOf Try.f68), [.tmp 2], (LOn Bool), by kernel_rfl, by kernel_rfl, by kernel_rfl, by kernel_rfl, rfl, by decide, ⟨by kernel_rfl, ?_, ?_⟩, ?_⟩⟩
  · exact no_loops (by kernel_rfl)
  · exact no_cuts (by kernel_rfl)
  · rintro x0
    kernel_rfl
/- 108 slices.IndexFunc[[]loop.example/g01005/impl.Problem,loop.example/g01005/impl.Problem] -/
def slices_IndexFunc_impl_Problem__impl_CountProblems_1_l0 (k : Nat) : Nat → (List (Int × List UInt8 × List UInt8)) → Unit → Int → Int → (Option Int) → Option Int
  | 0, _, _, _, _, _ => none
  | n + 1, s0, f1, x7, x8, e_0 => (if (decide (x8 < x7)) = true then (if 0 ≤ x8 then (s0[x8.toNat]?).bind fun y_1 => (impl_CountProblems_1 y_1).bind fun r_2 => (if r_2 = true then some x8 else slices_IndexFunc_impl_Problem__impl_CountProblems_1_l0 k n s0 f1 x7 (w_i64 (x8 + 1)) e_0) else none) else e_0)
def slices_IndexFunc_impl_Problem__impl_CountProblems_1 (k : Nat) (s0 : List (Int × List UInt8 × List UInt8)) (f1 : Unit) : Option Int := slices_IndexFunc_impl_Problem__impl_CountProblems_1_l0 k k s0 f1 (List.length s0 : Int) 0 (some (-1))
def slices_IndexFunc_impl_Problem__impl_CountProblems_1_l0_h : Head := ⟨[(0, (.val (.sl 88 (.st (.pr (.int .i64) (.pr .str .str)))))), (1, (.val (.fn 68 .un))), (7, (.val (.int .i64))), (8, (.val (.int .i64)))], [], []⟩
def slices_IndexFunc_impl_Problem__impl_CountProblems_1_l0_x0 : Head := ⟨[], [], []⟩
def slices_IndexFunc_impl_Problem__impl_CountProblems_1_l0_F (k n : Nat) (x : slices_IndexFunc_impl_Problem__impl_CountProblems_1_l0_h.T) (kx : Nat → St → Option Int) : Option Int := slices_IndexFunc_impl_Problem__impl_CountProblems_1_l0 k n x.1.1 x.1.2.1 x.1.2.2.1 x.1.2.2.2.1 (kx 0 (slices_IndexFunc_impl_Problem__impl_CountProblems_1_l0_x0.fill ((), (), ())))
def slices_IndexFunc_impl_Problem__impl_CountProblems_1_O (k : Nat) : Oracles Int := ⟨fun n => bif Nat.beq n 2 then some (fun σ kx => slices_IndexFunc_impl_Problem__impl_CountProblems_1_l0_h.get σ fun x => slices_IndexFunc_impl_Problem__impl_CountProblems_1_l0_F k k x kx) else none, fun _ => none⟩
def fe_slices_IndexFunc_impl_Problem__impl_CountProblems_1 (k : Nat) : FE := ⟨(.pr (.sl 88 (.st (.pr (.int .i64) (.pr .str .str)))) (.fn 68 .un)), 1, (.int .i64), fun x => slices_IndexFunc_impl_Problem__impl_CountProblems_1 k x.1 x.2⟩
theorem slices_IndexFunc_impl_Problem__impl_CountProblems_1_l0_ok (k : Nat) : LoopOK (mkEnv ti [(68, fe_impl_CountProblems_1)] (lk []) pins0 pinB0) (slices_IndexFunc_impl_Problem__impl_CountProblems_1_O k) (rdC (mkEnv ti [(68, fe_impl_CountProblems_1)] (lk []) pins0 pinB0) [.tmp 4] (.int .i64)) ((loopsOf (codeOf Try.f108)).getD 0 .skip) (fun σ kx => slices_IndexFunc_impl_Problem__impl_CountProblems_1_l0_h.get σ fun x => slices_IndexFunc_impl_Problem__impl_CountProblems_1_l0_F k k x kx) := by
  refine ⟨slices_IndexFunc_impl_Problem__impl_CountProblems_1_l0_h, [(0, slices_IndexFunc_impl_Problem__impl_CountProblems_1_l0_x0)], fun n x kx => slices_IndexFunc_impl_Problem__impl_CountProblems_1_l0_F k n x kx, k, by kernel_rfl, by kernel_rfl, fun x kx => by kernel_rfl, ?_, fun σ kx => rfl⟩
  rintro n ⟨⟨s0, f1, x7, x8, ⟨⟩⟩, ⟨⟩, ⟨⟩⟩ kx
  kernel_rfl
theorem ok_slices_IndexFunc_impl_Problem__impl_CountProblems_1 (k : Nat) : FnOK Try.prog 108 (fe_slices_IndexFunc_impl_Problem__impl_CountProblems_1 k) := by
  refine closed_ok (tab := [(68, fe_impl_CountProblems_1)]) (l := []) ti_ok ti_ht mix (List.forall_mem_cons.2 ⟨ok_impl_CountProblems_1, (List.forall_mem_nil _)⟩) (List.forall_mem_nil _) ⟨⟨Try.f108, (codeOf Try.f108), [.tmp 4], (slices_IndexFunc_impl_Problem__impl_CountProblems_1_O k), by kernel_rfl, by kernel_rfl, by kernel_rfl, by kernel_rfl, rfl, by decide, ⟨by kernel_rfl, ?_, ?_⟩, ?_⟩⟩
  · refine loops_of (n := 1) (by kernel_rfl) fun i hi => ?_
    match i, hi with
    | 0, _ => exact loop_of (by kernel_rfl) (slices_IndexFunc_impl_Problem__impl_CountProblems_1_l0_ok k)
    | n + 1, hi => omega
  · exact no_cuts (by kernel_rfl)
  · rintro ⟨s0, f1⟩
    kernel_rfl
/- 66 slices.DeleteFunc[[]loop.example/g01005/impl.Problem,loop.example/g01005/impl.Problem] -/
def slices_DeleteFunc_impl_Problem__impl_CountProblems_1_l0 (k : Nat) : Nat → (List (Int × List UInt8 × List UInt8)) → Unit → Int → Int → ((List (Int × List UInt8 × List UInt8)) → Int → Option (List (Int × List UInt8 × List UInt8))) → Option (List (Int × List UInt8 × List UInt8))
  | 0, _, _, _, _, _ => none
  | n + 1, s0, del1, i5, j6, e_0 => (if (decide (j6 < (List.length s0 : Int))) = true then (if 0 ≤ j6 then (s0[j6.toNat]?).bind fun y_2 => (impl_CountProblems_1 y_2).bind fun r_3 => (if (!r_3) = true then (if 0 ≤ i5 then (s0[i5.toNat]?).bind fun y_4 => none else none) else slices_DeleteFunc_impl_Problem__impl_CountProblems_1_l0 k n s0 del1 i5 (w_i64 (j6 + 1)) e_0) else none) else e_0 s0 i5)
def slices_DeleteFunc_impl_Problem__impl_CountProblems_1 (k : Nat) (s0 : List (Int × List UInt8 × List UInt8)) (del1 : Unit) : Option (List (Int × List UInt8 × List UInt8)) := (slices_IndexFunc_impl_Problem__impl_CountProblems_1 k s0 del1).bind fun r_1 => (if (decide (r_1 = (-1))) = true then none else slices_DeleteFunc_impl_Problem__impl_CountProblems_1_l0 k k s0 del1 r_1 (w_i64 (r_1 + 1)) (fun s_5 i_6 => (if 0 ≤ i_6 ∧ i_6 ≤ (s_5.length : Int) ∧ (s_5.length : Int) ≤ s_5.length then none else none)))
def slices_DeleteFunc_impl_Problem__impl_CountProblems_1_l0_h : Head := ⟨[(0, (.val (.sl 88 (.st (.pr (.int .i64) (.pr .str .str)))))), (1, (.val (.fn 68 .un))), (5, (.val (.int .i64))), (6, (.val (.int .i64)))], [], []⟩
def slices_DeleteFunc_impl_Problem__impl_CountProblems_1_l0_x0 : Head := ⟨[(0, (.val (.sl 88 (.st (.pr (.int .i64) (.pr .str .str)))))), (5, (.val (.int .i64)))], [], []⟩
def slices_DeleteFunc_impl_Problem__impl_CountProblems_1_l0_F (k n : Nat) (x : slices_DeleteFunc_impl_Problem__impl_CountProblems_1_l0_h.T) (kx : Nat → St → Option (List (Int × List UInt8 × List UInt8))) : Option (List (Int × List UInt8 × List UInt8)) := slices_DeleteFunc_impl_Problem__impl_CountProblems_1_l0 k n x.1.1 x.1.2.1 x.1.2.2.1 x.1.2.2.2.1 (fun (s0 : List (Int × List UInt8 × List UInt8)) (i5 : Int) => kx 0 (slices_DeleteFunc_impl_Problem__impl_CountProblems_1_l0_x0.fill ((s0, i5, ()), (), ())))
def slices_DeleteFunc_impl_Problem__impl_CountProblems_1_O (k : Nat) : Oracles (List (Int × List UInt8 × List UInt8)) := ⟨fun n => bif Nat.beq n 5 then some (fun σ kx => slices_DeleteFunc_impl_Problem__impl_CountProblems_1_l0_h.get σ fun x => slices_DeleteFunc_impl_Problem__impl_CountProblems_1_l0_F k k x kx) else none, fun _ => none⟩
def fe_slices_DeleteFunc_impl_Problem__impl_CountProblems_1 (k : Nat) : FE := ⟨(.pr (.sl 88 (.st (.pr (.int .i64) (.pr .str .str)))) (.fn 68 .un)), 1, (.sl 88 (.st (.pr (.int .i64) (.pr .str .str)))), fun x => slices_DeleteFunc_impl_Problem__impl_CountProblems_1 k x.1 x.2⟩
theorem slices_DeleteFunc_impl_Problem__impl_CountProblems_1_l0_ok (k : Nat) : LoopOK (mkEnv ti [(108, fe_slices_IndexFunc_impl_Problem__impl_CountProblems_1 k), (68, fe_impl_CountProblems_1)] (lk []) pins0 pinB0) (slices_DeleteFunc_impl_Problem__impl_CountProblems_1_O k) (rdC (mkEnv ti [(108, fe_slices_IndexFunc_impl_Problem__impl_CountProblems_1 k), (68, fe_impl_CountProblems_1)] (lk []) pins0 pinB0) [.tmp 4] (.sl 88 (.st (.pr (.int .i64) (.pr .str .str))))) ((loopsOf (codeOf Try.f66)).getD 0 .skip) (fun σ kx => slices_DeleteFunc_impl_Problem__impl_CountProblems_1_l0_h.get σ fun x => slices_DeleteFunc_impl_Problem__impl_CountProblems_1_l0_F k k x kx) := by
  refine ⟨slices_DeleteFunc_impl_Problem__impl_CountProblems_1_l0_h, [(0, slices_DeleteFunc_impl_Problem__impl_CountProblems_1_l0_x0)], fun n x kx => slices_DeleteFunc_impl_Problem__impl_CountProblems_1_l0_F k n x kx, k, by kernel_rfl, by kernel_rfl, fun x kx => by kernel_rfl, ?_, fun σ kx => rfl⟩
  rintro n ⟨⟨s0, del1, i5, j6, ⟨⟩⟩, ⟨⟩, ⟨⟩⟩ kx
  kernel_rfl
theorem ok_slices_DeleteFunc_impl_Problem__impl_CountProblems_1 (k : Nat) : FnOK Try.prog 66 (fe_slices_DeleteFunc_impl_Problem__impl_CountProblems_1 k) := by
  refine closed_ok (tab := [(108, fe_slices_IndexFunc_impl_Problem__impl_CountProblems_1 k), (68, fe_impl_CountProblems_1)]) (l := []) ti_ok ti_ht mix (List.forall_mem_cons.2 ⟨ok_slices_IndexFunc_impl_Problem__impl_CountProblems_1 k, (List.forall_mem_cons.2 ⟨ok_impl_CountProblems_1, (List.forall_mem_nil _)⟩)⟩) (List.forall_mem_nil _) ⟨⟨Try.f66, (codeOf Try.f66), [.tmp 4], (slices_DeleteFunc_impl_Problem__impl_CountProblems_1_O k), by kernel_rfl, by kernel_rfl, by kernel_rfl, by kernel_rfl, rfl, by decide, ⟨by kernel_rfl, ?_, ?_⟩, ?_⟩⟩
  · refine loops_of (n := 1) (by kernel_rfl) fun i hi => ?_
    match i, hi with
    | 0, _ => exact loop_of (by kernel_rfl) (slices_DeleteFunc_impl_Problem__impl_CountProblems_1_l0_ok k)
    | n + 1, hi => omega
  · exact no_cuts (by kernel_rfl)
  · rintro ⟨s0, del1⟩
    kernel_rfl
/- 66 slices.DeleteFunc[[]loop.example/g01005/impl.Problem,loop.example/g01005/impl.Problem] (open) -/
def slices_DeleteFunc_impl_Problem_o__impl_CountProblems_1_l0 (k : Nat) : Nat → Int → Int → (List (Int × List UInt8 × List UInt8)) → (Int → (List (Int × List UInt8 × List UInt8)) → Option (((Unit × Unit) × ((List (Int × List UInt8 × List UInt8)) × Unit) × Unit))) → Option (((Unit × Unit) × ((List (Int × List UInt8 × List UInt8)) × Unit) × Unit))
  | 0, _, _, _, _ => none
  | n + 1, i5, j6, q_4, e_0 => (if (decide (j6 < (List.length q_4 : Int))) = true then (if 0 ≤ j6 ∧ j6.toNat < List.length q_4 then (q_4[j6.toNat]?).bind fun y_5 => (impl_CountProblems_1 y_5).bind fun r_6 => (if (!r_6) = true then (if 0 ≤ i5 ∧ i5.toNat < List.length q_4 then (q_4[i5.toNat]?).bind fun y_7 => (q_4[i5.toNat]?).bind fun y_8 => slices_DeleteFunc_impl_Problem_o__impl_CountProblems_1_l0 k n (w_i64 (i5 + 1)) (w_i64 (j6 + 1)) (q_4.set i5.toNat y_5) e_0 else none) else slices_DeleteFunc_impl_Problem_o__impl_CountProblems_1_l0 k n i5 (w_i64 (j6 + 1)) q_4 e_0) else none) else e_0 i5 q_4)
def slices_DeleteFunc_impl_Problem_o__impl_CountProblems_1 (k : Nat) (q_1 : List (Int × List UInt8 × List UInt8)) : Option (((Unit × Unit) × ((List (Int × List UInt8 × List UInt8)) × Unit) × Unit)) := (slices_IndexFunc_impl_Problem__impl_CountProblems_1 k q_1 ()).bind fun r_2 => (if (decide (r_2 = (-1))) = true then some (((), ()), (q_1, ()), ()) else slices_DeleteFunc_impl_Problem_o__impl_CountProblems_1_l0 k k r_2 (w_i64 (r_2 + 1)) q_1 (fun i_9 q_10 => (if 0 ≤ i_9 ∧ i_9 ≤ (q_10.length : Int) ∧ (q_10.length : Int) ≤ q_10.length then (if 0 ≤ (0 : Int) ∧ (0 : Int) ≤ i_9 ∧ i_9 ≤ (overL q_10 i_9.toNat (List.replicate (q_10.length - i_9.toNat) (0, ([], [])))).length then none else none) else none)))
def slices_DeleteFunc_impl_Problem_o__impl_CountProblems_1_l0_h : Head := ⟨[(0, (.ref 1000000000 [])), (1, (.clo 68 .no)), (5, (.val (.int .i64))), (6, (.val (.int .i64)))], [(1000000000, 88, (.st (.pr (.int .i64) (.pr .str .str))), false)], []⟩
def slices_DeleteFunc_impl_Problem_o__impl_CountProblems_1_l0_x0 : Head := ⟨[(0, (.ref 1000000000 [])), (5, (.val (.int .i64)))], [(1000000000, 88, (.st (.pr (.int .i64) (.pr .str .str))), false)], []⟩
def slices_DeleteFunc_impl_Problem_o__impl_CountProblems_1_l0_F (k n : Nat) (x : slices_DeleteFunc_impl_Problem_o__impl_CountProblems_1_l0_h.T) (kx : Nat → St → Option (((Unit × Unit) × ((List (Int × List UInt8 × List UInt8)) × Unit) × Unit))) : Option (((Unit × Unit) × ((List (Int × List UInt8 × List UInt8)) × Unit) × Unit)) := slices_DeleteFunc_impl_Problem_o__impl_CountProblems_1_l0 k n x.1.2.2.1 x.1.2.2.2.1 x.2.1.1 (fun (i5 : Int) (q_9 : List (Int × List UInt8 × List UInt8)) => kx 0 (slices_DeleteFunc_impl_Problem_o__impl_CountProblems_1_l0_x0.fill (((), i5, ()), (q_9, ()), ())))
def slices_DeleteFunc_impl_Problem_o__impl_CountProblems_1_O (k : Nat) : Oracles (((Unit × Unit) × ((List (Int × List UInt8 × List UInt8)) × Unit) × Unit)) := ⟨fun n => bif Nat.beq n 5 then some (fun σ kx => slices_DeleteFunc_impl_Problem_o__impl_CountProblems_1_l0_h.get σ fun x => slices_DeleteFunc_impl_Problem_o__impl_CountProblems_1_l0_F k k x kx) else none, fun _ => none⟩
def slices_DeleteFunc_impl_Problem_o__impl_CountProblems_1_hi : Head := ⟨[(0, (.ref 1000000000 [])), (1, (.clo 68 .no))], [(1000000000, 88, (.st (.pr (.int .i64) (.pr .str .str))), false)], []⟩
def slices_DeleteFunc_impl_Problem_o__impl_CountProblems_1_ho : Head := ⟨[(0, (.ref 1000000000 []))], [(1000000000, 88, (.st (.pr (.int .i64) (.pr .str .str))), false)], []⟩
def oc_slices_DeleteFunc_impl_Problem_o__impl_CountProblems_1 (k : Nat) : OC := ⟨slices_DeleteFunc_impl_Problem_o__impl_CountProblems_1_hi, slices_DeleteFunc_impl_Problem_o__impl_CountProblems_1_ho, fun x => slices_DeleteFunc_impl_Problem_o__impl_CountProblems_1 k x.2.1.1⟩
theorem slices_DeleteFunc_impl_Problem_o__impl_CountProblems_1_l0_ok (k : Nat) (pins : Nat → Value) (pinB : Nat → Nat) : LoopOK (mkEnv ti [(108, fe_slices_IndexFunc_impl_Problem__impl_CountProblems_1 k), (68, fe_impl_CountProblems_1)] (lk []) pins pinB) (slices_DeleteFunc_impl_Problem_o__impl_CountProblems_1_O k) (rdO (mkEnv ti [(108, fe_slices_IndexFunc_impl_Problem__impl_CountProblems_1 k), (68, fe_impl_CountProblems_1)] (lk []) pins pinB) [.tmp 4] slices_DeleteFunc_impl_Problem_o__impl_CountProblems_1_ho) ((loopsOf (codeOf Try.f66)).getD 0 .skip) (fun σ kx => slices_DeleteFunc_impl_Problem_o__impl_CountProblems_1_l0_h.get σ fun x => slices_DeleteFunc_impl_Problem_o__impl_CountProblems_1_l0_F k k x kx) := by
  refine ⟨slices_DeleteFunc_impl_Problem_o__impl_CountProblems_1_l0_h, [(0, slices_DeleteFunc_impl_Problem_o__impl_CountProblems_1_l0_x0)], fun n x kx => slices_DeleteFunc_impl_Problem_o__impl_CountProblems_1_l0_F k n x kx, k, by kernel_rfl, by kernel_rfl, fun x kx => by kernel_rfl, ?_, fun σ kx => rfl⟩
  rintro n ⟨⟨⟨⟩, ⟨⟩, i5, j6, ⟨⟩⟩, ⟨q_4, ⟨⟩⟩, ⟨⟩⟩ kx
  kernel_rfl
theorem ok_slices_DeleteFunc_impl_Problem_o__impl_CountProblems_1 (k : Nat) : OpenOK Try.prog ti 66 (oc_slices_DeleteFunc_impl_Problem_o__impl_CountProblems_1 k) := by
  refine open_ok (tab := [(108, fe_slices_IndexFunc_impl_Problem__impl_CountProblems_1 k), (68, fe_impl_CountProblems_1)]) (l := []) ti_ok ti_ht mix (List.forall_mem_cons.2 ⟨ok_slices_IndexFunc_impl_Problem__impl_CountProblems_1 k, (List.forall_mem_cons.2 ⟨ok_impl_CountProblems_1, (List.forall_mem_nil _)⟩)⟩) (List.forall_mem_nil _) ⟨by kernel_rfl, by kernel_rfl, Try.f66, (codeOf Try.f66), [.tmp 4], (slices_DeleteFunc_impl_Problem_o__impl_CountProblems_1_O k), by kernel_rfl, by kernel_rfl, by kernel_rfl, by kernel_rfl, Nat.le_of_ble_eq_true (by kernel_rfl), fun pins pinB => ⟨⟨by kernel_rfl, ?_, ?_⟩, ?_⟩⟩
  · refine loops_of (n := 1) (by kernel_rfl) fun i hi => ?_
    match i, hi with
    | 0, _ => exact loop_of (by kernel_rfl) (slices_DeleteFunc_impl_Problem_o__impl_CountProblems_1_l0_ok k pins pinB)
    | n + 1, hi => omega
  · exact no_cuts (by kernel_rfl)
  · rintro ⟨⟨⟨⟩, ⟨⟩, ⟨⟩⟩, ⟨q_1, ⟨⟩⟩, ⟨⟩⟩
    kernel_rfl
/- 66 slices.DeleteFunc[[]loop.example/g01005/impl.Problem,loop.example/g01005/impl.Problem] (open) -/
def slices_DeleteFunc_impl_Problem_g__impl_CountProblems_1_l0 (k : Nat) : Nat → Int → Int → (List (Int × List UInt8 × List UInt8)) → (Int → (List (Int × List UInt8 × List UInt8)) → Option (((Unit × Unit) × ((List (Int × List UInt8 × List UInt8)) × Unit) × Unit))) → Option (((Unit × Unit) × ((List (Int × List UInt8 × List UInt8)) × Unit) × Unit))
  | 0, _, _, _, _ => none
  | n + 1, i5, j6, q_4, e_0 => (if (decide (j6 < (List.length q_4 : Int))) = true then (if 0 ≤ j6 ∧ j6.toNat < List.length q_4 then (q_4[j6.toNat]?).bind fun y_5 => (impl_CountProblems_1 y_5).bind fun r_6 => (if (!r_6) = true then (if 0 ≤ i5 ∧ i5.toNat < List.length q_4 then (q_4[i5.toNat]?).bind fun y_7 => (q_4[i5.toNat]?).bind fun y_8 => slices_DeleteFunc_impl_Problem_g__impl_CountProblems_1_l0 k n (w_i64 (i5 + 1)) (w_i64 (j6 + 1)) (q_4.set i5.toNat y_5) e_0 else none) else slices_DeleteFunc_impl_Problem_g__impl_CountProblems_1_l0 k n i5 (w_i64 (j6 + 1)) q_4 e_0) else none) else e_0 i5 q_4)
def slices_DeleteFunc_impl_Problem_g__impl_CountProblems_1 (k : Nat) (q_1 : List (Int × List UInt8 × List UInt8)) : Option (((Unit × Unit) × ((List (Int × List UInt8 × List UInt8)) × Unit) × Unit)) := (slices_IndexFunc_impl_Problem__impl_CountProblems_1 k q_1 ()).bind fun r_2 => (if (decide (r_2 = (-1))) = true then some (((), ()), (q_1, ()), ()) else slices_DeleteFunc_impl_Problem_g__impl_CountProblems_1_l0 k k r_2 (w_i64 (r_2 + 1)) q_1 (fun i_9 q_10 => (if 0 ≤ i_9 ∧ i_9 ≤ (q_10.length : Int) ∧ (q_10.length : Int) ≤ q_10.length then (if 0 ≤ (0 : Int) ∧ (0 : Int) ≤ i_9 ∧ i_9 ≤ (overL q_10 i_9.toNat (List.replicate (q_10.length - i_9.toNat) (0, ([], [])))).length then some (((), ()), (((overL q_10 i_9.toNat (List.replicate (q_10.length - i_9.toNat) (0, ([], [])))).take i_9.toNat), ()), ()) else none) else none)))
def slices_DeleteFunc_impl_Problem_g__impl_CountProblems_1_l0_h : Head := ⟨[(0, (.ref 1000000000 [])), (1, (.clo 68 .no)), (5, (.val (.int .i64))), (6, (.val (.int .i64)))], [(1000000000, 88, (.st (.pr (.int .i64) (.pr .str .str))), false)], []⟩
def slices_DeleteFunc_impl_Problem_g__impl_CountProblems_1_l0_x0 : Head := ⟨[(0, (.ref 1000000000 [])), (5, (.val (.int .i64)))], [(1000000000, 88, (.st (.pr (.int .i64) (.pr .str .str))), false)], []⟩
def slices_DeleteFunc_impl_Problem_g__impl_CountProblems_1_l0_F (k n : Nat) (x : slices_DeleteFunc_impl_Problem_g__impl_CountProblems_1_l0_h.T) (kx : Nat → St → Option (((Unit × Unit) × ((List (Int × List UInt8 × List UInt8)) × Unit) × Unit))) : Option (((Unit × Unit) × ((List (Int × List UInt8 × List UInt8)) × Unit) × Unit)) := slices_DeleteFunc_impl_Problem_g__impl_CountProblems_1_l0 k n x.1.2.2.1 x.1.2.2.2.1 x.2.1.1 (fun (i5 : Int) (q_9 : List (Int × List UInt8 × List UInt8)) => kx 0 (slices_DeleteFunc_impl_Problem_g__impl_CountProblems_1_l0_x0.fill (((), i5, ()), (q_9, ()), ())))
def slices_DeleteFunc_impl_Problem_g__impl_CountProblems_1_O (k : Nat) : Oracles (((Unit × Unit) × ((List (Int × List UInt8 × List UInt8)) × Unit) × Unit)) := ⟨fun n => bif Nat.beq n 5 then some (fun σ kx => slices_DeleteFunc_impl_Problem_g__impl_CountProblems_1_l0_h.get σ fun x => slices_DeleteFunc_impl_Problem_g__impl_CountProblems_1_l0_F k k x kx) else none, fun _ => none⟩
def slices_DeleteFunc_impl_Problem_g__impl_CountProblems_1_hi : Head := ⟨[(0, (.ref 1000000000 [])), (1, (.clo 68 .no))], [(1000000000, 88, (.st (.pr (.int .i64) (.pr .str .str))), false)], []⟩
def slices_DeleteFunc_impl_Problem_g__impl_CountProblems_1_ho : Head := ⟨[(0, (.ref 64000000 []))], [(64000000, 88, (.st (.pr (.int .i64) (.pr .str .str))), false)], []⟩
def oc_slices_DeleteFunc_impl_Problem_g__impl_CountProblems_1 (k : Nat) : OC := ⟨slices_DeleteFunc_impl_Problem_g__impl_CountProblems_1_hi, slices_DeleteFunc_impl_Problem_g__impl_CountProblems_1_ho, fun x => slices_DeleteFunc_impl_Problem_g__impl_CountProblems_1 k x.2.1.1⟩
theorem slices_DeleteFunc_impl_Problem_g__impl_CountProblems_1_l0_ok (k : Nat) (pins : Nat → Value) (pinB : Nat → Nat) : LoopOK (mkEnv ti [(108, fe_slices_IndexFunc_impl_Problem__impl_CountProblems_1 k), (68, fe_impl_CountProblems_1)] (lk []) pins pinB) (slices_DeleteFunc_impl_Problem_g__impl_CountProblems_1_O k) (rdG (mkEnv ti [(108, fe_slices_IndexFunc_impl_Problem__impl_CountProblems_1 k), (68, fe_impl_CountProblems_1)] (lk []) pins pinB) [.tmp 4] 1 (.sl 88 (.st (.pr (.int .i64) (.pr .str .str)))) slices_DeleteFunc_impl_Problem_g__impl_CountProblems_1_ho) ((loopsOf (codeOf Try.f66)).getD 0 .skip) (fun σ kx => slices_DeleteFunc_impl_Problem_g__impl_CountProblems_1_l0_h.get σ fun x => slices_DeleteFunc_impl_Problem_g__impl_CountProblems_1_l0_F k k x kx) := by
  refine ⟨slices_DeleteFunc_impl_Problem_g__impl_CountProblems_1_l0_h, [(0, slices_DeleteFunc_impl_Problem_g__impl_CountProblems_1_l0_x0)], fun n x kx => slices_DeleteFunc_impl_Problem_g__impl_CountProblems_1_l0_F k n x kx, k, by kernel_rfl, by kernel_rfl, fun x kx => by kernel_rfl, ?_, fun σ kx => rfl⟩
  rintro n ⟨⟨⟨⟩, ⟨⟩, i5, j6, ⟨⟩⟩, ⟨q_4, ⟨⟩⟩, ⟨⟩⟩ kx
  kernel_rfl
theorem ok_slices_DeleteFunc_impl_Problem_g__impl_CountProblems_1 (k : Nat) : OpenOK Try.prog ti 66 (oc_slices_DeleteFunc_impl_Problem_g__impl_CountProblems_1 k) := by
  refine give_ok (tab := [(108, fe_slices_IndexFunc_impl_Problem__impl_CountProblems_1 k), (68, fe_impl_CountProblems_1)]) (l := []) (n := 1) (t := (.sl 88 (.st (.pr (.int .i64) (.pr .str .str))))) ti_ok ti_ht mix (List.forall_mem_cons.2 ⟨ok_slices_IndexFunc_impl_Problem__impl_CountProblems_1 k, (List.forall_mem_cons.2 ⟨ok_impl_CountProblems_1, (List.forall_mem_nil _)⟩)⟩) (List.forall_mem_nil _) ⟨by kernel_rfl, by kernel_rfl, by kernel_rfl, by kernel_rfl, Try.f66, (codeOf Try.f66), [.tmp 4], (slices_DeleteFunc_impl_Problem_g__impl_CountProblems_1_O k), by kernel_rfl, by kernel_rfl, by kernel_rfl, by kernel_rfl, by kernel_rfl, Nat.le_of_ble_eq_true (by kernel_rfl), fun pins pinB => ⟨⟨by kernel_rfl, ?_, ?_⟩, ?_⟩⟩
  · refine loops_of (n := 1) (by kernel_rfl) fun i hi => ?_
    match i, hi with
    | 0, _ => exact loop_of (by kernel_rfl) (slices_DeleteFunc_impl_Problem_g__impl_CountProblems_1_l0_ok k pins pinB)
    | n + 1, hi => omega
  · exact no_cuts (by kernel_rfl)
  · rintro ⟨⟨⟨⟩, ⟨⟩, ⟨⟩⟩, ⟨q_1, ⟨⟩⟩, ⟨⟩⟩
    kernel_rfl
/- 70 loop.example/g01005/impl.size[loop.example/g01005/impl.Problem] -/
def impl_size_impl_Problem (list0 : List (Int × List UInt8 × List UInt8)) : Option Int := some (List.length list0 : Int)
def fe_impl_size_impl_Problem : FE := ⟨(.sl 88 (.st (.pr (.int .i64) (.pr .str .str)))), 1, (.int .i64), fun x => impl_size_impl_Problem x⟩
theorem ok_impl_size_impl_Problem : FnOK Try.prog 70 (fe_impl_size_impl_Problem) := by
  refine closed_ok (tab := []) (l := []) ti_ok ti_ht mix (List.forall_mem_nil _) (List.forall_mem_nil _) ⟨⟨Try.f70, (codeOf Try.f70), [.tmp 2], (LOn Int), by kernel_rfl, by kernel_rfl, by kernel_rfl, by kernel_rfl, rfl, by decide, ⟨by kernel_rfl, ?_, ?_⟩, ?_⟩⟩
  · exact no_loops (by kernel_rfl)
  · exact no_cuts (by kernel_rfl)
  · rintro list0
    kernel_rfl
end
end Go.Proofs.Ytkopnopjbaejjaa.Ev
