/- Functions of the program, as plain ones. No conditions. -/
import Derived.Test.YtmmkijdfiaaobaaGreatG1
import Derived.KernelRfl
set_option linter.unusedVariables false
set_option maxRecDepth 100000
namespace Go.Proofs.YtmmkijdfiaaobaaGreat.Ev
open Go.RowKit
noncomputable section
/- 56 loop.example/g01005/laws.toEdgeS -/
def laws_toEdgeS_l0 (k : Nat) : Nat → (List (Int × Int × Int)) → Int → (List (Int × Int × Int)) → ((List (Int × Int × Int)) → Option (List (Int × Int × Int))) → Option (List (Int × Int × Int))
  | 0, _, _, _, _ => none
  | n + 1, a0, i4, q_1, e_0 => (if (decide (i4 < (List.length a0 : Int))) = true then (if 0 ≤ i4 then (a0[i4.toNat]?).bind fun y_2 => (laws_toEdge y_2).bind fun r_3 => (if 0 ≤ i4 ∧ i4.toNat < List.length q_1 then (q_1[i4.toNat]?).bind fun y_4 => (q_1[i4.toNat]?).bind fun y_5 => laws_toEdgeS_l0 k n a0 (w_i64 (i4 + 1)) (q_1.set i4.toNat r_3) e_0 else none) else none) else e_0 q_1)
def laws_toEdgeS (k : Nat) (a0 : List (Int × Int × Int)) : Option (List (Int × Int × Int)) := (if 0 ≤ (List.length a0 : Int) ∧ (List.length a0 : Int) ≤ (List.length a0 : Int) ∧ (List.length a0 : Int) * 24 ≤ LIM then laws_toEdgeS_l0 k k a0 0 (List.replicate (List.length a0) (0, (0, 0))) (fun q_6 => some q_6) else none)
def laws_toEdgeS_l0_h : Head := ⟨[(0, (.val (.sl 165 (.st (.pr (.int .i64) (.pr (.int .i64) (.int .i64))))))), (3, (.ref 64000000 [])), (4, (.val (.int .i64)))], [(64000000, 128, (.st (.pr (.int .i64) (.pr (.int .i64) (.int .i64)))), false)], []⟩
def laws_toEdgeS_l0_x0 : Head := ⟨[(3, (.ref 64000000 []))], [(64000000, 128, (.st (.pr (.int .i64) (.pr (.int .i64) (.int .i64)))), false)], []⟩
def laws_toEdgeS_l0_F (k n : Nat) (x : laws_toEdgeS_l0_h.T) (kx : Nat → St → Option (List (Int × Int × Int))) : Option (List (Int × Int × Int)) := laws_toEdgeS_l0 k n x.1.1 x.1.2.2.1 x.2.1.1 (fun (q_6 : List (Int × Int × Int)) => kx 0 (laws_toEdgeS_l0_x0.fill (((), ()), (q_6, ()), ())))
def laws_toEdgeS_O (k : Nat) : Oracles (List (Int × Int × Int)) := ⟨fun n => bif Nat.beq n 3 then some (fun σ kx => laws_toEdgeS_l0_h.get σ fun x => laws_toEdgeS_l0_F k k x kx) else none, fun _ => none⟩
def fe_laws_toEdgeS (k : Nat) : FE := ⟨(.sl 165 (.st (.pr (.int .i64) (.pr (.int .i64) (.int .i64))))), 1, (.sl 128 (.st (.pr (.int .i64) (.pr (.int .i64) (.int .i64))))), fun x => laws_toEdgeS k x⟩
theorem laws_toEdgeS_l0_ok (k : Nat) : LoopOK (mkEnv ti [(106, fe_laws_toEdge)] (lk []) pins0 pinB0) (laws_toEdgeS_O k) (rdC (mkEnv ti [(106, fe_laws_toEdge)] (lk []) pins0 pinB0) [.tmp 2] (.sl 128 (.st (.pr (.int .i64) (.pr (.int .i64) (.int .i64)))))) ((loopsOf (codeOf Tryz.f56)).getD 0 .skip) (fun σ kx => laws_toEdgeS_l0_h.get σ fun x => laws_toEdgeS_l0_F k k x kx) := by
  refine ⟨laws_toEdgeS_l0_h, [(0, laws_toEdgeS_l0_x0)], fun n x kx => laws_toEdgeS_l0_F k n x kx, k, by kernel_rfl, by kernel_rfl, fun x kx => by kernel_rfl, ?_, fun σ kx => rfl⟩
  rintro n ⟨⟨a0, ⟨⟩, i4, ⟨⟩⟩, ⟨q_1, ⟨⟩⟩, ⟨⟩⟩ kx
  kernel_rfl
theorem ok_laws_toEdgeS (k : Nat) : FnOK Tryz.prog 56 (fe_laws_toEdgeS k) := by
  refine closed_ok (tab := [(106, fe_laws_toEdge)]) (l := []) ti_ok ti_ht mix (List.forall_mem_cons.2 ⟨ok_laws_toEdge, (List.forall_mem_nil _)⟩) (List.forall_mem_nil _) ⟨⟨Tryz.f56, (codeOf Tryz.f56), [.tmp 2], (laws_toEdgeS_O k), by kernel_rfl, by kernel_rfl, by kernel_rfl, by kernel_rfl, rfl, by decide, ⟨by kernel_rfl, ?_, ?_⟩, ?_⟩⟩
  · refine loops_of (n := 1) (by kernel_rfl) fun i hi => ?_
    match i, hi with
    | 0, _ => exact loop_of (by kernel_rfl) (laws_toEdgeS_l0_ok k)
    | n + 1, hi => omega
  · exact no_cuts (by kernel_rfl)
  · rintro a0
    kernel_rfl
/- 19 loop.example/g01005/laws.toGraph -/
def laws_toGraph (k : Nat) (a0 : Int × List (Int × Int × Int)) : Option (Int × List (Int × Int × Int)) := (laws_toEdgeS k a0.2).bind fun r_1 => some (a0.1, r_1)
def fe_laws_toGraph (k : Nat) : FE := ⟨(.st (.pr (.int .i64) (.sl 165 (.st (.pr (.int .i64) (.pr (.int .i64) (.int .i64))))))), 1, (.st (.pr (.int .i64) (.sl 128 (.st (.pr (.int .i64) (.pr (.int .i64) (.int .i64))))))), fun x => laws_toGraph k x⟩
theorem ok_laws_toGraph (k : Nat) : FnOK Tryz.prog 19 (fe_laws_toGraph k) := by
  refine closed_ok (tab := [(56, fe_laws_toEdgeS k)]) (l := []) ti_ok ti_ht mix (List.forall_mem_cons.2 ⟨ok_laws_toEdgeS k, (List.forall_mem_nil _)⟩) (List.forall_mem_nil _) ⟨⟨Tryz.f19, (codeOf Tryz.f19), [.cell 2 48], (LOn (Int × List (Int × Int × Int))), by kernel_rfl, by kernel_rfl, by kernel_rfl, by kernel_rfl, rfl, by decide, ⟨by kernel_rfl, ?_, ?_⟩, ?_⟩⟩
  · exact no_loops (by kernel_rfl)
  · exact no_cuts (by kernel_rfl)
  · rintro a0
    kernel_rfl
/- 57 loop.example/g01005/laws.toTable -/
def laws_toTable (k : Nat) (a0 : List Int × List (List Int)) : Option (List Int × List (List Int)) := (laws_toInt64S k a0.1).bind fun r_1 => (laws_toInt64SS k a0.2).bind fun r_2 => some (r_1, r_2)
def fe_laws_toTable (k : Nat) : FE := ⟨(.st (.pr (.sl 2 (.int .i64)) (.sl 25 (.sl 2 (.int .i64))))), 1, (.st (.pr (.sl 2 (.int .i64)) (.sl 25 (.sl 2 (.int .i64))))), fun x => laws_toTable k x⟩
theorem ok_laws_toTable (k : Nat) : FnOK Tryz.prog 57 (fe_laws_toTable k) := by
  refine closed_ok (tab := [(18, fe_laws_toInt64S k), (105, fe_laws_toInt64SS k)]) (l := []) ti_ok ti_ht mix (List.forall_mem_cons.2 ⟨ok_laws_toInt64S k, (List.forall_mem_cons.2 ⟨ok_laws_toInt64SS k, (List.forall_mem_nil _)⟩)⟩) (List.forall_mem_nil _) ⟨⟨Tryz.f57, (codeOf Tryz.f57), [.cell 2 115], (LOn (List Int × List (List Int))), by kernel_rfl, by kernel_rfl, by kernel_rfl, by kernel_rfl, rfl, by decide, ⟨by kernel_rfl, ?_, ?_⟩, ?_⟩⟩
  · exact no_loops (by kernel_rfl)
  · exact no_cuts (by kernel_rfl)
  · rintro a0
    kernel_rfl
/- 21 loop.example/g01005/laws.toTableS -/
def laws_toTableS_l0 (k : Nat) : Nat → (List (List Int × List (List Int))) → Int → (List (List Int × List (List Int))) → ((List (List Int × List (List Int))) → Option (List (List Int × List (List Int)))) → Option (List (List Int × List (List Int)))
  | 0, _, _, _, _ => none
  | n + 1, a0, i4, q_1, e_0 => (if (decide (i4 < (List.length a0 : Int))) = true then (if 0 ≤ i4 then (a0[i4.toNat]?).bind fun y_2 => (laws_toTable k y_2).bind fun r_3 => (if 0 ≤ i4 ∧ i4.toNat < List.length q_1 then (q_1[i4.toNat]?).bind fun y_4 => (q_1[i4.toNat]?).bind fun y_5 => laws_toTableS_l0 k n a0 (w_i64 (i4 + 1)) (q_1.set i4.toNat (r_3.1, r_3.2)) e_0 else none) else none) else e_0 q_1)
def laws_toTableS (k : Nat) (a0 : List (List Int × List (List Int))) : Option (List (List Int × List (List Int))) := (if 0 ≤ (List.length a0 : Int) ∧ (List.length a0 : Int) ≤ (List.length a0 : Int) ∧ (List.length a0 : Int) * 48 ≤ LIM then laws_toTableS_l0 k k a0 0 (List.replicate (List.length a0) ([], [])) (fun q_6 => some q_6) else none)
def laws_toTableS_l0_h : Head := ⟨[(0, (.val (.sl 96 (.st (.pr (.sl 2 (.int .i64)) (.sl 25 (.sl 2 (.int .i64)))))))), (3, (.ref 64000000 [])), (4, (.val (.int .i64)))], [(64000000, 115, (.st (.pr (.sl 2 (.int .i64)) (.sl 25 (.sl 2 (.int .i64))))), false)], []⟩
def laws_toTableS_l0_x0 : Head := ⟨[(3, (.ref 64000000 []))], [(64000000, 115, (.st (.pr (.sl 2 (.int .i64)) (.sl 25 (.sl 2 (.int .i64))))), false)], []⟩
def laws_toTableS_l0_F (k n : Nat) (x : laws_toTableS_l0_h.T) (kx : Nat → St → Option (List (List Int × List (List Int)))) : Option (List (List Int × List (List Int))) := laws_toTableS_l0 k n x.1.1 x.1.2.2.1 x.2.1.1 (fun (q_6 : List (List Int × List (List Int))) => kx 0 (laws_toTableS_l0_x0.fill (((), ()), (q_6, ()), ())))
def laws_toTableS_O (k : Nat) : Oracles (List (List Int × List (List Int))) := ⟨fun n => bif Nat.beq n 3 then some (fun σ kx => laws_toTableS_l0_h.get σ fun x => laws_toTableS_l0_F k k x kx) else none, fun _ => none⟩
def fe_laws_toTableS (k : Nat) : FE := ⟨(.sl 96 (.st (.pr (.sl 2 (.int .i64)) (.sl 25 (.sl 2 (.int .i64)))))), 1, (.sl 115 (.st (.pr (.sl 2 (.int .i64)) (.sl 25 (.sl 2 (.int .i64)))))), fun x => laws_toTableS k x⟩
theorem laws_toTableS_l0_ok (k : Nat) : LoopOK (mkEnv ti [(57, fe_laws_toTable k)] (lk []) pins0 pinB0) (laws_toTableS_O k) (rdC (mkEnv ti [(57, fe_laws_toTable k)] (lk []) pins0 pinB0) [.tmp 2] (.sl 115 (.st (.pr (.sl 2 (.int .i64)) (.sl 25 (.sl 2 (.int .i64))))))) ((loopsOf (codeOf Tryz.f21)).getD 0 .skip) (fun σ kx => laws_toTableS_l0_h.get σ fun x => laws_toTableS_l0_F k k x kx) := by
  refine ⟨laws_toTableS_l0_h, [(0, laws_toTableS_l0_x0)], fun n x kx => laws_toTableS_l0_F k n x kx, k, by kernel_rfl, by kernel_rfl, fun x kx => by kernel_rfl, ?_, fun σ kx => rfl⟩
  rintro n ⟨⟨a0, ⟨⟩, i4, ⟨⟩⟩, ⟨q_1, ⟨⟩⟩, ⟨⟩⟩ kx
  kernel_rfl
theorem ok_laws_toTableS (k : Nat) : FnOK Tryz.prog 21 (fe_laws_toTableS k) := by
  refine closed_ok (tab := [(57, fe_laws_toTable k)]) (l := []) ti_ok ti_ht mix (List.forall_mem_cons.2 ⟨ok_laws_toTable k, (List.forall_mem_nil _)⟩) (List.forall_mem_nil _) ⟨⟨Tryz.f21, (codeOf Tryz.f21), [.tmp 2], (laws_toTableS_O k), by kernel_rfl, by kernel_rfl, by kernel_rfl, by kernel_rfl, rfl, by decide, ⟨by kernel_rfl, ?_, ?_⟩, ?_⟩⟩
  · refine loops_of (n := 1) (by kernel_rfl) fun i hi => ?_
    match i, hi with
    | 0, _ => exact loop_of (by kernel_rfl) (laws_toTableS_l0_ok k)
    | n + 1, hi => omega
  · exact no_cuts (by kernel_rfl)
  · rintro a0
    kernel_rfl
/- 22 loop.example/g01005/laws.toFiltration -/
def laws_toFiltration (k : Nat) (a0 : List (List Int) × List Int) : Option (List (List Int) × List Int) := (laws_toComplex k a0.1).bind fun r_1 => (laws_toInt64S k a0.2).bind fun r_2 => some (r_1, r_2)
def fe_laws_toFiltration (k : Nat) : FE := ⟨(.st (.pr (.st (.sl 25 (.sl 2 (.int .i64)))) (.sl 2 (.int .i64)))), 1, (.st (.pr (.st (.sl 25 (.sl 2 (.int .i64)))) (.sl 2 (.int .i64)))), fun x => laws_toFiltration k x⟩
theorem ok_laws_toFiltration (k : Nat) : FnOK Tryz.prog 22 (fe_laws_toFiltration k) := by
  refine closed_ok (tab := [(54, fe_laws_toComplex k), (18, fe_laws_toInt64S k)]) (l := []) ti_ok ti_ht mix (List.forall_mem_cons.2 ⟨ok_laws_toComplex k, (List.forall_mem_cons.2 ⟨ok_laws_toInt64S k, (List.forall_mem_nil _)⟩)⟩) (List.forall_mem_nil _) ⟨⟨Tryz.f22, (codeOf Tryz.f22), [.cell 2 52], (LOn (List (List Int) × List Int)), by kernel_rfl, by kernel_rfl, by kernel_rfl, by kernel_rfl, rfl, by decide, ⟨by kernel_rfl, ?_, ?_⟩, ?_⟩⟩
  · exact no_loops (by kernel_rfl)
  · exact no_cuts (by kernel_rfl)
  · rintro a0
    kernel_rfl
/- 107 loop.example/g01005/laws.toStringS -/
def laws_toStringS_l0 (k : Nat) : Nat → (List (List UInt8)) → Int → (List (List UInt8)) → ((List (List UInt8)) → Option (List (List UInt8))) → Option (List (List UInt8))
  | 0, _, _, _, _ => none
  | n + 1, a0, i4, q_1, e_0 => (if (decide (i4 < (List.length a0 : Int))) = true then (if 0 ≤ i4 then (a0[i4.toNat]?).bind fun y_2 => (if 0 ≤ i4 ∧ i4.toNat < List.length q_1 then (q_1[i4.toNat]?).bind fun y_3 => (q_1[i4.toNat]?).bind fun y_4 => laws_toStringS_l0 k n a0 (w_i64 (i4 + 1)) (q_1.set i4.toNat y_2) e_0 else none) else none) else e_0 q_1)
def laws_toStringS (k : Nat) (a0 : List (List UInt8)) : Option (List (List UInt8)) := (if 0 ≤ (List.length a0 : Int) ∧ (List.length a0 : Int) ≤ (List.length a0 : Int) ∧ (List.length a0 : Int) * 16 ≤ LIM then laws_toStringS_l0 k k a0 0 (List.replicate (List.length a0) ([] : List UInt8)) (fun q_5 => some q_5) else none)
def laws_toStringS_l0_h : Head := ⟨[(0, (.val (.sl 9 .str))), (3, (.ref 64000000 [])), (4, (.val (.int .i64)))], [(64000000, 9, .str, false)], []⟩
def laws_toStringS_l0_x0 : Head := ⟨[(3, (.ref 64000000 []))], [(64000000, 9, .str, false)], []⟩
def laws_toStringS_l0_F (k n : Nat) (x : laws_toStringS_l0_h.T) (kx : Nat → St → Option (List (List UInt8))) : Option (List (List UInt8)) := laws_toStringS_l0 k n x.1.1 x.1.2.2.1 x.2.1.1 (fun (q_5 : List (List UInt8)) => kx 0 (laws_toStringS_l0_x0.fill (((), ()), (q_5, ()), ())))
def laws_toStringS_O (k : Nat) : Oracles (List (List UInt8)) := ⟨fun n => bif Nat.beq n 3 then some (fun σ kx => laws_toStringS_l0_h.get σ fun x => laws_toStringS_l0_F k k x kx) else none, fun _ => none⟩
def fe_laws_toStringS (k : Nat) : FE := ⟨(.sl 9 .str), 1, (.sl 9 .str), fun x => laws_toStringS k x⟩
theorem laws_toStringS_l0_ok (k : Nat) : LoopOK (mkEnv ti [] (lk []) pins0 pinB0) (laws_toStringS_O k) (rdC (mkEnv ti [] (lk []) pins0 pinB0) [.tmp 2] (.sl 9 .str)) ((loopsOf (codeOf Tryz.f107)).getD 0 .skip) (fun σ kx => laws_toStringS_l0_h.get σ fun x => laws_toStringS_l0_F k k x kx) := by
  refine ⟨laws_toStringS_l0_h, [(0, laws_toStringS_l0_x0)], fun n x kx => laws_toStringS_l0_F k n x kx, k, by kernel_rfl, by kernel_rfl, fun x kx => by kernel_rfl, ?_, fun σ kx => rfl⟩
  rintro n ⟨⟨a0, ⟨⟩, i4, ⟨⟩⟩, ⟨q_1, ⟨⟩⟩, ⟨⟩⟩ kx
  kernel_rfl
theorem ok_laws_toStringS (k : Nat) : FnOK Tryz.prog 107 (fe_laws_toStringS k) := by
  refine closed_ok (tab := []) (l := []) ti_ok ti_ht mix (List.forall_mem_nil _) (List.forall_mem_nil _) ⟨⟨Tryz.f107, (codeOf Tryz.f107), [.tmp 2], (laws_toStringS_O k), by kernel_rfl, by kernel_rfl, by kernel_rfl, by kernel_rfl, rfl, by decide, ⟨by kernel_rfl, ?_, ?_⟩, ?_⟩⟩
  · refine loops_of (n := 1) (by kernel_rfl) fun i hi => ?_
    match i, hi with
    | 0, _ => exact loop_of (by kernel_rfl) (laws_toStringS_l0_ok k)
    | n + 1, hi => omega
  · exact no_cuts (by kernel_rfl)
  · rintro a0
    kernel_rfl
/- 58 loop.example/g01005/laws.toItem -/
def laws_toItem (k : Nat) (a0 : List UInt8 × List (List UInt8) × Int × Int) : Option (List UInt8 × List (List UInt8) × Int × Int) := (laws_toStringS k a0.2.1).bind fun r_1 => some (a0.1, (r_1, (a0.2.2.1, a0.2.2.2)))
def fe_laws_toItem (k : Nat) : FE := ⟨(.st (.pr .str (.pr (.sl 9 .str) (.pr (.int .i64) (.int .i64))))), 1, (.st (.pr .str (.pr (.sl 9 .str) (.pr (.int .i64) (.int .i64))))), fun x => laws_toItem k x⟩
theorem ok_laws_toItem (k : Nat) : FnOK Tryz.prog 58 (fe_laws_toItem k) := by
  refine closed_ok (tab := [(107, fe_laws_toStringS k)]) (l := []) ti_ok ti_ht mix (List.forall_mem_cons.2 ⟨ok_laws_toStringS k, (List.forall_mem_nil _)⟩) (List.forall_mem_nil _) ⟨⟨Tryz.f58, (codeOf Tryz.f58), [.cell 2 117], (LOn (List UInt8 × List (List UInt8) × Int × Int)), by kernel_rfl, by kernel_rfl, by kernel_rfl, by kernel_rfl, rfl, by decide, ⟨by kernel_rfl, ?_, ?_⟩, ?_⟩⟩
  · exact no_loops (by kernel_rfl)
  · exact no_cuts (by kernel_rfl)
  · rintro a0
    kernel_rfl
/- 23 loop.example/g01005/laws.toItemS -/
def laws_toItemS_l0 (k : Nat) : Nat → (List (List UInt8 × List (List UInt8) × Int × Int)) → Int → (List (List UInt8 × List (List UInt8) × Int × Int)) → ((List (List UInt8 × List (List UInt8) × Int × Int)) → Option (List (List UInt8 × List (List UInt8) × Int × Int))) → Option (List (List UInt8 × List (List UInt8) × Int × Int))
  | 0, _, _, _, _ => none
  | n + 1, a0, i4, q_1, e_0 => (if (decide (i4 < (List.length a0 : Int))) = true then (if 0 ≤ i4 then (a0[i4.toNat]?).bind fun y_2 => (laws_toItem k y_2).bind fun r_3 => (if 0 ≤ i4 ∧ i4.toNat < List.length q_1 then (q_1[i4.toNat]?).bind fun y_4 => (q_1[i4.toNat]?).bind fun y_5 => laws_toItemS_l0 k n a0 (w_i64 (i4 + 1)) (q_1.set i4.toNat (r_3.1, (r_3.2.1, (r_3.2.2.1, r_3.2.2.2)))) e_0 else none) else none) else e_0 q_1)
def laws_toItemS (k : Nat) (a0 : List (List UInt8 × List (List UInt8) × Int × Int)) : Option (List (List UInt8 × List (List UInt8) × Int × Int)) := (if 0 ≤ (List.length a0 : Int) ∧ (List.length a0 : Int) ≤ (List.length a0 : Int) ∧ (List.length a0 : Int) * 56 ≤ LIM then laws_toItemS_l0 k k a0 0 (List.replicate (List.length a0) ([], ([], (0, 0)))) (fun q_6 => some q_6) else none)
def laws_toItemS_l0_h : Head := ⟨[(0, (.val (.sl 100 (.st (.pr .str (.pr (.sl 9 .str) (.pr (.int .i64) (.int .i64)))))))), (3, (.ref 64000000 [])), (4, (.val (.int .i64)))], [(64000000, 117, (.st (.pr .str (.pr (.sl 9 .str) (.pr (.int .i64) (.int .i64))))), false)], []⟩
def laws_toItemS_l0_x0 : Head := ⟨[(3, (.ref 64000000 []))], [(64000000, 117, (.st (.pr .str (.pr (.sl 9 .str) (.pr (.int .i64) (.int .i64))))), false)], []⟩
def laws_toItemS_l0_F (k n : Nat) (x : laws_toItemS_l0_h.T) (kx : Nat → St → Option (List (List UInt8 × List (List UInt8) × Int × Int))) : Option (List (List UInt8 × List (List UInt8) × Int × Int)) := laws_toItemS_l0 k n x.1.1 x.1.2.2.1 x.2.1.1 (fun (q_6 : List (List UInt8 × List (List UInt8) × Int × Int)) => kx 0 (laws_toItemS_l0_x0.fill (((), ()), (q_6, ()), ())))
def laws_toItemS_O (k : Nat) : Oracles (List (List UInt8 × List (List UInt8) × Int × Int)) := ⟨fun n => bif Nat.beq n 3 then some (fun σ kx => laws_toItemS_l0_h.get σ fun x => laws_toItemS_l0_F k k x kx) else none, fun _ => none⟩
def fe_laws_toItemS (k : Nat) : FE := ⟨(.sl 100 (.st (.pr .str (.pr (.sl 9 .str) (.pr (.int .i64) (.int .i64)))))), 1, (.sl 117 (.st (.pr .str (.pr (.sl 9 .str) (.pr (.int .i64) (.int .i64)))))), fun x => laws_toItemS k x⟩
theorem laws_toItemS_l0_ok (k : Nat) : LoopOK (mkEnv ti [(58, fe_laws_toItem k)] (lk []) pins0 pinB0) (laws_toItemS_O k) (rdC (mkEnv ti [(58, fe_laws_toItem k)] (lk []) pins0 pinB0) [.tmp 2] (.sl 117 (.st (.pr .str (.pr (.sl 9 .str) (.pr (.int .i64) (.int .i64))))))) ((loopsOf (codeOf Tryz.f23)).getD 0 .skip) (fun σ kx => laws_toItemS_l0_h.get σ fun x => laws_toItemS_l0_F k k x kx) := by
  refine ⟨laws_toItemS_l0_h, [(0, laws_toItemS_l0_x0)], fun n x kx => laws_toItemS_l0_F k n x kx, k, by kernel_rfl, by kernel_rfl, fun x kx => by kernel_rfl, ?_, fun σ kx => rfl⟩
  rintro n ⟨⟨a0, ⟨⟩, i4, ⟨⟩⟩, ⟨q_1, ⟨⟩⟩, ⟨⟩⟩ kx
  kernel_rfl
theorem ok_laws_toItemS (k : Nat) : FnOK Tryz.prog 23 (fe_laws_toItemS k) := by
  refine closed_ok (tab := [(58, fe_laws_toItem k)]) (l := []) ti_ok ti_ht mix (List.forall_mem_cons.2 ⟨ok_laws_toItem k, (List.forall_mem_nil _)⟩) (List.forall_mem_nil _) ⟨⟨Tryz.f23, (codeOf Tryz.f23), [.tmp 2], (laws_toItemS_O k), by kernel_rfl, by kernel_rfl, by kernel_rfl, by kernel_rfl, rfl, by decide, ⟨by kernel_rfl, ?_, ?_⟩, ?_⟩⟩
  · refine loops_of (n := 1) (by kernel_rfl) fun i hi => ?_
    match i, hi with
    | 0, _ => exact loop_of (by kernel_rfl) (laws_toItemS_l0_ok k)
    | n + 1, hi => omega
  · exact no_cuts (by kernel_rfl)
  · rintro a0
    kernel_rfl
/- 6 loop.example/g01005/laws.toDesk -/
def laws_toDesk (k : Nat) (a0 : (List (List Int) × Int × List Int × List (Int × Int × Int × List Int)) × List Int × (Int × List (Int × Int × Int)) × List Int × (Int × Int × Int × List Int) × (List (List Int × List (List Int))) × (List (List Int) × List Int) × List (List UInt8 × List (List UInt8) × Int × Int)) : Option ((List (List Int) × Int × List Int × List (Int × Int × Int × List Int)) × List Int × (Int × List (Int × Int × Int)) × List Int × (Int × Int × Int × List Int) × (List (List Int × List (List Int))) × (List (List Int) × List Int) × List (List UInt8 × List (List UInt8) × Int × Int)) := (laws_toSheaf k a0.1).bind fun r_1 => (laws_toInt64S k a0.2.1).bind fun r_2 => (laws_toGraph k a0.2.2.1).bind fun r_3 => (laws_toInt64S k a0.2.2.2.1).bind fun r_4 => (laws_toMatrix k a0.2.2.2.2.1).bind fun r_5 => (laws_toTableS k a0.2.2.2.2.2.1).bind fun r_6 => (laws_toFiltration k a0.2.2.2.2.2.2.1).bind fun r_7 => (laws_toItemS k a0.2.2.2.2.2.2.2).bind fun r_8 => some ((r_1.1, (r_1.2.1, (r_1.2.2.1, r_1.2.2.2))), (r_2, ((r_3.1, r_3.2), (r_4, ((r_5.1, (r_5.2.1, (r_5.2.2.1, r_5.2.2.2))), (r_6, ((r_7.1, r_7.2), r_8)))))))
def fe_laws_toDesk (k : Nat) : FE := ⟨(.st (.pr (.st (.pr (.st (.sl 25 (.sl 2 (.int .i64)))) (.pr (.int .i64) (.pr (.sl 2 (.int .i64)) (.sl 33 (.st (.pr (.int .i64) (.pr (.int .i64) (.pr (.int .i64) (.sl 2 (.int .i64))))))))))) (.pr (.sl 2 (.int .i64)) (.pr (.st (.pr (.int .i64) (.sl 165 (.st (.pr (.int .i64) (.pr (.int .i64) (.int .i64))))))) (.pr (.sl 2 (.int .i64)) (.pr (.st (.pr (.int .i64) (.pr (.int .i64) (.pr (.int .i64) (.sl 2 (.int .i64)))))) (.pr (.sl 96 (.st (.pr (.sl 2 (.int .i64)) (.sl 25 (.sl 2 (.int .i64)))))) (.pr (.st (.pr (.st (.sl 25 (.sl 2 (.int .i64)))) (.sl 2 (.int .i64)))) (.sl 100 (.st (.pr .str (.pr (.sl 9 .str) (.pr (.int .i64) (.int .i64)))))))))))))), 1, (.st (.pr (.st (.pr (.st (.sl 25 (.sl 2 (.int .i64)))) (.pr (.int .i64) (.pr (.sl 2 (.int .i64)) (.sl 49 (.st (.pr (.int .i64) (.pr (.int .i64) (.pr (.int .i64) (.sl 2 (.int .i64))))))))))) (.pr (.sl 2 (.int .i64)) (.pr (.st (.pr (.int .i64) (.sl 128 (.st (.pr (.int .i64) (.pr (.int .i64) (.int .i64))))))) (.pr (.sl 2 (.int .i64)) (.pr (.st (.pr (.int .i64) (.pr (.int .i64) (.pr (.int .i64) (.sl 2 (.int .i64)))))) (.pr (.sl 115 (.st (.pr (.sl 2 (.int .i64)) (.sl 25 (.sl 2 (.int .i64)))))) (.pr (.st (.pr (.st (.sl 25 (.sl 2 (.int .i64)))) (.sl 2 (.int .i64)))) (.sl 117 (.st (.pr .str (.pr (.sl 9 .str) (.pr (.int .i64) (.int .i64)))))))))))))), fun x => laws_toDesk k x⟩
theorem ok_laws_toDesk (k : Nat) : FnOK Tryz.prog 6 (fe_laws_toDesk k) := by
  refine closed_ok (tab := [(17, fe_laws_toSheaf k), (18, fe_laws_toInt64S k), (19, fe_laws_toGraph k), (20, fe_laws_toMatrix k), (21, fe_laws_toTableS k), (22, fe_laws_toFiltration k), (23, fe_laws_toItemS k)]) (l := []) ti_ok ti_ht mix (List.forall_mem_cons.2 ⟨ok_laws_toSheaf k, (List.forall_mem_cons.2 ⟨ok_laws_toInt64S k, (List.forall_mem_cons.2 ⟨ok_laws_toGraph k, (List.forall_mem_cons.2 ⟨ok_laws_toMatrix k, (List.forall_mem_cons.2 ⟨ok_laws_toTableS k, (List.forall_mem_cons.2 ⟨ok_laws_toFiltration k, (List.forall_mem_cons.2 ⟨ok_laws_toItemS k, (List.forall_mem_nil _)⟩)⟩)⟩)⟩)⟩)⟩)⟩) (List.forall_mem_nil _) ⟨⟨Tryz.f6, (codeOf Tryz.f6), [.cell 2 55], (LOn ((List (List Int) × Int × List Int × List (Int × Int × Int × List Int)) × List Int × (Int × List (Int × Int × Int)) × List Int × (Int × Int × Int × List Int) × (List (List Int × List (List Int))) × (List (List Int) × List Int) × List (List UInt8 × List (List UInt8) × Int × Int))), by kernel_rfl, by kernel_rfl, by kernel_rfl, by kernel_rfl, rfl, by decide, ⟨by kernel_rfl, ?_, ?_⟩, ?_⟩⟩
  · exact no_loops (by kernel_rfl)
  · exact no_cuts (by kernel_rfl)
  · rintro a0
    kernel_rfl
/- 97 loop.example/g01005/spec.l00In -/
def spec_l00In (n0 : Int) (low1 : Int) (high2 : Int) : Option Bool := (if (decide (low1 ≤ n0)) = true then some (decide (n0 ≤ high2)) else some false)
def fe_spec_l00In : FE := ⟨(.pr (.int .i64) (.pr (.int .i64) (.int .i64))), 1, .bool, fun x => spec_l00In x.1 x.2.1 x.2.2⟩
theorem ok_spec_l00In : FnOK Tryz.prog 97 (fe_spec_l00In) := by
  refine closed_ok (tab := []) (l := []) ti_ok ti_ht mix (List.forall_mem_nil _) (List.forall_mem_nil _) ⟨⟨Tryz.f97, (codeOf Tryz.f97), [.tmp 6], (LOn Bool), by kernel_rfl, by kernel_rfl, by kernel_rfl, by kernel_rfl, rfl, by decide, ⟨by kernel_rfl, ?_, ?_⟩, ?_⟩⟩
  · exact no_loops (by kernel_rfl)
  · exact no_cuts (by kernel_rfl)
  · rintro ⟨n0, low1, high2⟩
    kernel_rfl
/- 140 loop.example/g01005/spec.l00Rises -/
def spec_l00Rises_l0 (k : Nat) : Nat → (List Int) → Int → Int → Int → (Option Bool) → Option Bool
  | 0, _, _, _, _, _ => none
  | n + 1, list0, low1, high2, i7, e_0 => (if (decide (i7 < (List.length list0 : Int))) = true then (if 0 ≤ i7 then (list0[i7.toNat]?).bind fun y_1 => (spec_l00In y_1 low1 high2).bind fun r_2 => (if (!r_2) = true then some false else (if (decide (0 < i7)) = true then (if 0 ≤ (w_i64 (i7 - 1)) then (list0[(w_i64 (i7 - 1)).toNat]?).bind fun y_3 => (if 0 ≤ i7 then (list0[i7.toNat]?).bind fun y_4 => (if (decide (y_4 ≤ y_3)) = true then some false else spec_l00Rises_l0 k n list0 low1 high2 (w_i64 (i7 + 1)) e_0) else none) else none) else spec_l00Rises_l0 k n list0 low1 high2 (w_i64 (i7 + 1)) e_0)) else none) else e_0)
def spec_l00Rises (k : Nat) (list0 : List Int) (low1 : Int) (high2 : Int) : Option Bool := spec_l00Rises_l0 k k list0 low1 high2 0 (some true)
def spec_l00Rises_l0_h : Head := ⟨[(0, (.val (.sl 2 (.int .i64)))), (1, (.val (.int .i64))), (2, (.val (.int .i64))), (7, (.val (.int .i64)))], [], []⟩
def spec_l00Rises_l0_x0 : Head := ⟨[], [], []⟩
def spec_l00Rises_l0_F (k n : Nat) (x : spec_l00Rises_l0_h.T) (kx : Nat → St → Option Bool) : Option Bool := spec_l00Rises_l0 k n x.1.1 x.1.2.1 x.1.2.2.1 x.1.2.2.2.1 (kx 0 (spec_l00Rises_l0_x0.fill ((), (), ())))
def spec_l00Rises_O (k : Nat) : Oracles Bool := ⟨fun n => bif Nat.beq n 2 then some (fun σ kx => spec_l00Rises_l0_h.get σ fun x => spec_l00Rises_l0_F k k x kx) else none, fun _ => none⟩
def fe_spec_l00Rises (k : Nat) : FE := ⟨(.pr (.sl 2 (.int .i64)) (.pr (.int .i64) (.int .i64))), 1, .bool, fun x => spec_l00Rises k x.1 x.2.1 x.2.2⟩
theorem spec_l00Rises_l0_ok (k : Nat) : LoopOK (mkEnv ti [(97, fe_spec_l00In)] (lk []) pins0 pinB0) (spec_l00Rises_O k) (rdC (mkEnv ti [(97, fe_spec_l00In)] (lk []) pins0 pinB0) [.tmp 6] .bool) ((loopsOf (codeOf Tryz.f140)).getD 0 .skip) (fun σ kx => spec_l00Rises_l0_h.get σ fun x => spec_l00Rises_l0_F k k x kx) := by
  refine ⟨spec_l00Rises_l0_h, [(0, spec_l00Rises_l0_x0)], fun n x kx => spec_l00Rises_l0_F k n x kx, k, by kernel_rfl, by kernel_rfl, fun x kx => by kernel_rfl, ?_, fun σ kx => rfl⟩
  rintro n ⟨⟨list0, low1, high2, i7, ⟨⟩⟩, ⟨⟩, ⟨⟩⟩ kx
  kernel_rfl
theorem ok_spec_l00Rises (k : Nat) : FnOK Tryz.prog 140 (fe_spec_l00Rises k) := by
  refine closed_ok (tab := [(97, fe_spec_l00In)]) (l := []) ti_ok ti_ht mix (List.forall_mem_cons.2 ⟨ok_spec_l00In, (List.forall_mem_nil _)⟩) (List.forall_mem_nil _) ⟨⟨Tryz.f140, (codeOf Tryz.f140), [.tmp 6], (spec_l00Rises_O k), by kernel_rfl, by kernel_rfl, by kernel_rfl, by kernel_rfl, rfl, by decide, ⟨by kernel_rfl, ?_, ?_⟩, ?_⟩⟩
  · refine loops_of (n := 1) (by kernel_rfl) fun i hi => ?_
    match i, hi with
    | 0, _ => exact loop_of (by kernel_rfl) (spec_l00Rises_l0_ok k)
    | n + 1, hi => omega
  · exact no_cuts (by kernel_rfl)
  · rintro ⟨list0, low1, high2⟩
    kernel_rfl
/- 135 loop.example/g01005/spec.l05Simplex -/
def spec_l05Simplex (k : Nat) (s0 : List Int) : Option Bool := (spec_l00In (List.length s0 : Int) 1 4).bind fun r_1 => (if r_1 = true then (spec_l00Rises k s0 0 9).bind fun r_2 => some r_2 else some false)
def fe_spec_l05Simplex (k : Nat) : FE := ⟨(.sl 2 (.int .i64)), 1, .bool, fun x => spec_l05Simplex k x⟩
theorem ok_spec_l05Simplex (k : Nat) : FnOK Tryz.prog 135 (fe_spec_l05Simplex k) := by
  refine closed_ok (tab := [(97, fe_spec_l00In), (140, fe_spec_l00Rises k)]) (l := []) ti_ok ti_ht mix (List.forall_mem_cons.2 ⟨ok_spec_l00In, (List.forall_mem_cons.2 ⟨ok_spec_l00Rises k, (List.forall_mem_nil _)⟩)⟩) (List.forall_mem_nil _) ⟨⟨Tryz.f135, (codeOf Tryz.f135), [.tmp 2], (LOn Bool), by kernel_rfl, by kernel_rfl, by kernel_rfl, by kernel_rfl, rfl, by decide, ⟨by kernel_rfl, ?_, ?_⟩, ?_⟩⟩
  · exact no_loops (by kernel_rfl)
  · exact no_cuts (by kernel_rfl)
  · rintro s0
    kernel_rfl
/- 136 loop.example/g01005/spec.l05Before -/
def spec_l05Before_l0 (k : Nat) : Nat → (List Int) → (List Int) → Int → (Option Bool) → Option Bool
  | 0, _, _, _, _ => none
  | n + 1, a0, b1, i5, e_0 => (if (decide (i5 < (List.length a0 : Int))) = true then (if 0 ≤ i5 then (a0[i5.toNat]?).bind fun y_1 => (if 0 ≤ i5 then (b1[i5.toNat]?).bind fun y_2 => (if (!(decide (y_1 = y_2))) = true then (if 0 ≤ i5 then (a0[i5.toNat]?).bind fun y_3 => (if 0 ≤ i5 then (b1[i5.toNat]?).bind fun y_4 => some (decide (y_3 < y_4)) else none) else none) else spec_l05Before_l0 k n a0 b1 (w_i64 (i5 + 1)) e_0) else none) else none) else e_0)
def spec_l05Before (k : Nat) (a0 : List Int) (b1 : List Int) : Option Bool := (if (!(decide ((List.length a0 : Int) = (List.length b1 : Int)))) = true then some (decide ((List.length a0 : Int) < (List.length b1 : Int))) else spec_l05Before_l0 k k a0 b1 0 (some false))
def spec_l05Before_l0_h : Head := ⟨[(0, (.val (.sl 2 (.int .i64)))), (1, (.val (.sl 2 (.int .i64)))), (5, (.val (.int .i64)))], [], []⟩
def spec_l05Before_l0_x0 : Head := ⟨[], [], []⟩
def spec_l05Before_l0_F (k n : Nat) (x : spec_l05Before_l0_h.T) (kx : Nat → St → Option Bool) : Option Bool := spec_l05Before_l0 k n x.1.1 x.1.2.1 x.1.2.2.1 (kx 0 (spec_l05Before_l0_x0.fill ((), (), ())))
def spec_l05Before_O (k : Nat) : Oracles Bool := ⟨fun n => bif Nat.beq n 4 then some (fun σ kx => spec_l05Before_l0_h.get σ fun x => spec_l05Before_l0_F k k x kx) else none, fun _ => none⟩
def fe_spec_l05Before (k : Nat) : FE := ⟨(.pr (.sl 2 (.int .i64)) (.sl 2 (.int .i64))), 1, .bool, fun x => spec_l05Before k x.1 x.2⟩
theorem spec_l05Before_l0_ok (k : Nat) : LoopOK (mkEnv ti [] (lk []) pins0 pinB0) (spec_l05Before_O k) (rdC (mkEnv ti [] (lk []) pins0 pinB0) [.tmp 4] .bool) ((loopsOf (codeOf Tryz.f136)).getD 0 .skip) (fun σ kx => spec_l05Before_l0_h.get σ fun x => spec_l05Before_l0_F k k x kx) := by
  refine ⟨spec_l05Before_l0_h, [(0, spec_l05Before_l0_x0)], fun n x kx => spec_l05Before_l0_F k n x kx, k, by kernel_rfl, by kernel_rfl, fun x kx => by kernel_rfl, ?_, fun σ kx => rfl⟩
  rintro n ⟨⟨a0, b1, i5, ⟨⟩⟩, ⟨⟩, ⟨⟩⟩ kx
  kernel_rfl
theorem ok_spec_l05Before (k : Nat) : FnOK Tryz.prog 136 (fe_spec_l05Before k) := by
  refine closed_ok (tab := []) (l := []) ti_ok ti_ht mix (List.forall_mem_nil _) (List.forall_mem_nil _) ⟨⟨Tryz.f136, (codeOf Tryz.f136), [.tmp 4], (spec_l05Before_O k), by kernel_rfl, by kernel_rfl, by kernel_rfl, by kernel_rfl, rfl, by decide, ⟨by kernel_rfl, ?_, ?_⟩, ?_⟩⟩
  · refine loops_of (n := 1) (by kernel_rfl) fun i hi => ?_
    match i, hi with
    | 0, _ => exact loop_of (by kernel_rfl) (spec_l05Before_l0_ok k)
    | n + 1, hi => omega
  · exact no_cuts (by kernel_rfl)
  · rintro ⟨a0, b1⟩
    kernel_rfl
/- 153 loop.example/g01005/spec.l00Own -/
def spec_l00Own (list0 : List Int) : Option (List Int) := (if (([] : List Unit).length + list0.length) * 8 ≤ LIM then some list0 else none)
def fe_spec_l00Own : FE := ⟨(.sl 2 (.int .i64)), 1, (.sl 2 (.int .i64)), fun x => spec_l00Own x⟩
theorem ok_spec_l00Own : FnOK Tryz.prog 153 (fe_spec_l00Own) := by
  refine closed_ok (tab := []) (l := []) ti_ok ti_ht mix (List.forall_mem_nil _) (List.forall_mem_nil _) ⟨⟨Tryz.f153, (codeOf Tryz.f153), [.tmp 2], (LOn (List Int)), by kernel_rfl, by kernel_rfl, by kernel_rfl, by kernel_rfl, rfl, by decide, ⟨by kernel_rfl, ?_, ?_⟩, ?_⟩⟩
  · exact no_loops (by kernel_rfl)
  · exact no_cuts (by kernel_rfl)
  · rintro list0
    kernel_rfl
/- 138 loop.example/g01005/spec.l05Drop -/
def spec_l05Drop (s0 : List Int) (k1 : Int) : Option (List Int) := (if 0 ≤ (0 : Int) ∧ (0 : Int) ≤ k1 ∧ k1 ≤ s0.length then (spec_l00Own (s0.take k1.toNat)).bind fun r_1 => (if 0 ≤ (w_i64 (k1 + 1)) ∧ (w_i64 (k1 + 1)) ≤ (s0.length : Int) ∧ (s0.length : Int) ≤ s0.length then (if (r_1.length + ((s0.drop ((w_i64 (k1 + 1)).toNat)).take (s0.length - (w_i64 (k1 + 1)).toNat)).length) * 8 ≤ LIM then some (r_1 ++ ((s0.drop ((w_i64 (k1 + 1)).toNat)).take (s0.length - (w_i64 (k1 + 1)).toNat))) else none) else none) else none)
def fe_spec_l05Drop : FE := ⟨(.pr (.sl 2 (.int .i64)) (.int .i64)), 1, (.sl 2 (.int .i64)), fun x => spec_l05Drop x.1 x.2⟩
theorem ok_spec_l05Drop : FnOK Tryz.prog 138 (fe_spec_l05Drop) := by
  refine closed_ok (tab := [(153, fe_spec_l00Own)]) (l := []) ti_ok ti_ht mix (List.forall_mem_cons.2 ⟨ok_spec_l00Own, (List.forall_mem_nil _)⟩) (List.forall_mem_nil _) ⟨⟨Tryz.f138, (codeOf Tryz.f138), [.tmp 4], (LOn (List Int)), by kernel_rfl, by kernel_rfl, by kernel_rfl, by kernel_rfl, rfl, by decide, ⟨by kernel_rfl, ?_, ?_⟩, ?_⟩⟩
  · exact no_loops (by kernel_rfl)
  · exact no_cuts (by kernel_rfl)
  · rintro ⟨s0, k1⟩
    kernel_rfl
/- 152 loop.example/g01005/spec.l00Same -/
def spec_l00Same_l0 (k : Nat) : Nat → (List Int) → (List Int) → Int → (Option Bool) → Option Bool
  | 0, _, _, _, _ => none
  | n + 1, a0, b1, i5, e_0 => (if (decide (i5 < (List.length a0 : Int))) = true then (if 0 ≤ i5 then (a0[i5.toNat]?).bind fun y_1 => (if 0 ≤ i5 then (b1[i5.toNat]?).bind fun y_2 => (if (!(decide (y_1 = y_2))) = true then some false else spec_l00Same_l0 k n a0 b1 (w_i64 (i5 + 1)) e_0) else none) else none) else e_0)
def spec_l00Same (k : Nat) (a0 : List Int) (b1 : List Int) : Option Bool := (if (!(decide ((List.length a0 : Int) = (List.length b1 : Int)))) = true then some false else spec_l00Same_l0 k k a0 b1 0 (some true))
def spec_l00Same_l0_h : Head := ⟨[(0, (.val (.sl 2 (.int .i64)))), (1, (.val (.sl 2 (.int .i64)))), (5, (.val (.int .i64)))], [], []⟩
def spec_l00Same_l0_x0 : Head := ⟨[], [], []⟩
def spec_l00Same_l0_F (k n : Nat) (x : spec_l00Same_l0_h.T) (kx : Nat → St → Option Bool) : Option Bool := spec_l00Same_l0 k n x.1.1 x.1.2.1 x.1.2.2.1 (kx 0 (spec_l00Same_l0_x0.fill ((), (), ())))
def spec_l00Same_O (k : Nat) : Oracles Bool := ⟨fun n => bif Nat.beq n 4 then some (fun σ kx => spec_l00Same_l0_h.get σ fun x => spec_l00Same_l0_F k k x kx) else none, fun _ => none⟩
def fe_spec_l00Same (k : Nat) : FE := ⟨(.pr (.sl 2 (.int .i64)) (.sl 2 (.int .i64))), 1, .bool, fun x => spec_l00Same k x.1 x.2⟩
theorem spec_l00Same_l0_ok (k : Nat) : LoopOK (mkEnv ti [] (lk []) pins0 pinB0) (spec_l00Same_O k) (rdC (mkEnv ti [] (lk []) pins0 pinB0) [.tmp 4] .bool) ((loopsOf (codeOf Tryz.f152)).getD 0 .skip) (fun σ kx => spec_l00Same_l0_h.get σ fun x => spec_l00Same_l0_F k k x kx) := by
  refine ⟨spec_l00Same_l0_h, [(0, spec_l00Same_l0_x0)], fun n x kx => spec_l00Same_l0_F k n x kx, k, by kernel_rfl, by kernel_rfl, fun x kx => by kernel_rfl, ?_, fun σ kx => rfl⟩
  rintro n ⟨⟨a0, b1, i5, ⟨⟩⟩, ⟨⟩, ⟨⟩⟩ kx
  kernel_rfl
theorem ok_spec_l00Same (k : Nat) : FnOK Tryz.prog 152 (fe_spec_l00Same k) := by
  refine closed_ok (tab := []) (l := []) ti_ok ti_ht mix (List.forall_mem_nil _) (List.forall_mem_nil _) ⟨⟨Tryz.f152, (codeOf Tryz.f152), [.tmp 4], (spec_l00Same_O k), by kernel_rfl, by kernel_rfl, by kernel_rfl, by kernel_rfl, rfl, by decide, ⟨by kernel_rfl, ?_, ?_⟩, ?_⟩⟩
  · refine loops_of (n := 1) (by kernel_rfl) fun i hi => ?_
    match i, hi with
    | 0, _ => exact loop_of (by kernel_rfl) (spec_l00Same_l0_ok k)
    | n + 1, hi => omega
  · exact no_cuts (by kernel_rfl)
  · rintro ⟨a0, b1⟩
    kernel_rfl
/- 137 loop.example/g01005/spec.l05Find -/
def spec_l05Find_l0 (k : Nat) : Nat → (List (List Int)) → (List Int) → Int → (Option Int) → Option Int
  | 0, _, _, _, _ => none
  | n + 1, c0, s1, i5, e_0 => (if (decide (i5 < (List.length c0 : Int))) = true then (if 0 ≤ i5 then (c0[i5.toNat]?).bind fun y_1 => (spec_l00Same k y_1 s1).bind fun r_2 => (if r_2 = true then some i5 else spec_l05Find_l0 k n c0 s1 (w_i64 (i5 + 1)) e_0) else none) else e_0)
def spec_l05Find (k : Nat) (c0 : List (List Int)) (s1 : List Int) : Option Int := spec_l05Find_l0 k k c0 s1 0 (some (-1))
def spec_l05Find_l0_h : Head := ⟨[(0, (.val (.ptr (.st (.sl 25 (.sl 2 (.int .i64))))))), (1, (.val (.sl 2 (.int .i64)))), (5, (.val (.int .i64)))], [], []⟩
def spec_l05Find_l0_x0 : Head := ⟨[], [], []⟩
def spec_l05Find_l0_F (k n : Nat) (x : spec_l05Find_l0_h.T) (kx : Nat → St → Option Int) : Option Int := spec_l05Find_l0 k n x.1.1 x.1.2.1 x.1.2.2.1 (kx 0 (spec_l05Find_l0_x0.fill ((), (), ())))
def spec_l05Find_O (k : Nat) : Oracles Int := ⟨fun n => bif Nat.beq n 2 then some (fun σ kx => spec_l05Find_l0_h.get σ fun x => spec_l05Find_l0_F k k x kx) else none, fun _ => none⟩
def fe_spec_l05Find (k : Nat) : FE := ⟨(.pr (.ptr (.st (.sl 25 (.sl 2 (.int .i64))))) (.sl 2 (.int .i64))), 1, (.int .i64), fun x => spec_l05Find k x.1 x.2⟩
theorem spec_l05Find_l0_ok (k : Nat) : LoopOK (mkEnv ti [(152, fe_spec_l00Same k)] (lk []) pins0 pinB0) (spec_l05Find_O k) (rdC (mkEnv ti [(152, fe_spec_l00Same k)] (lk []) pins0 pinB0) [.tmp 4] (.int .i64)) ((loopsOf (codeOf Tryz.f137)).getD 0 .skip) (fun σ kx => spec_l05Find_l0_h.get σ fun x => spec_l05Find_l0_F k k x kx) := by
  refine ⟨spec_l05Find_l0_h, [(0, spec_l05Find_l0_x0)], fun n x kx => spec_l05Find_l0_F k n x kx, k, by kernel_rfl, by kernel_rfl, fun x kx => by kernel_rfl, ?_, fun σ kx => rfl⟩
  rintro n ⟨⟨c0, s1, i5, ⟨⟩⟩, ⟨⟩, ⟨⟩⟩ kx
  kernel_rfl
theorem ok_spec_l05Find (k : Nat) : FnOK Tryz.prog 137 (fe_spec_l05Find k) := by
  refine closed_ok (tab := [(152, fe_spec_l00Same k)]) (l := []) ti_ok ti_ht mix (List.forall_mem_cons.2 ⟨ok_spec_l00Same k, (List.forall_mem_nil _)⟩) (List.forall_mem_nil _) ⟨⟨Tryz.f137, (codeOf Tryz.f137), [.tmp 4], (spec_l05Find_O k), by kernel_rfl, by kernel_rfl, by kernel_rfl, by kernel_rfl, rfl, by decide, ⟨by kernel_rfl, ?_, ?_⟩, ?_⟩⟩
  · refine loops_of (n := 1) (by kernel_rfl) fun i hi => ?_
    match i, hi with
    | 0, _ => exact loop_of (by kernel_rfl) (spec_l05Find_l0_ok k)
    | n + 1, hi => omega
  · exact no_cuts (by kernel_rfl)
  · rintro ⟨c0, s1⟩
    kernel_rfl
end
end Go.Proofs.YtmmkijdfiaaobaaGreat.Ev
