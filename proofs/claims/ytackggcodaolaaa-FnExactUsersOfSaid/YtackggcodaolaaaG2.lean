/- Functions of the program, as plain ones. No conditions. -/
import Derived.Test.YtackggcodaolaaaG1
import Derived.KernelRfl
set_option linter.unusedVariables false
set_option maxRecDepth 100000
namespace Go.Proofs.Ytackggcodaolaaa.Ev
open Go.RowKit
noncomputable section
/- 167 loop.example/g01005/laws.toEdgeS -/
def laws_toEdgeS_l0 (k : Nat) : Nat → (List (Int × Int × Int)) → Int → (List (Int × Int × Int)) → ((List (Int × Int × Int)) → Option (List (Int × Int × Int))) → Option (List (Int × Int × Int))
  | 0, _, _, _, _ => none
  | n + 1, a0, i4, q_1, e_0 => (if (decide (i4 < (List.length a0 : Int))) = true then (if 0 ≤ i4 then (a0[i4.toNat]?).bind fun y_2 => (laws_toEdge y_2).bind fun r_3 => (if 0 ≤ i4 ∧ i4.toNat < List.length q_1 then (q_1[i4.toNat]?).bind fun y_4 => (q_1[i4.toNat]?).bind fun y_5 => laws_toEdgeS_l0 k n a0 (w_i64 (i4 + 1)) (q_1.set i4.toNat r_3) e_0 else none) else none) else e_0 q_1)
def laws_toEdgeS (k : Nat) (a0 : List (Int × Int × Int)) : Option (List (Int × Int × Int)) := (if 0 ≤ (List.length a0 : Int) ∧ (List.length a0 : Int) ≤ (List.length a0 : Int) ∧ (List.length a0 : Int) * 24 ≤ LIM then laws_toEdgeS_l0 k k a0 0 (List.replicate (List.length a0) (0, (0, 0))) (fun q_6 => some q_6) else none)
def laws_toEdgeS_l0_h : Head := ⟨[(0, (.val (.sl 250 (.st (.pr (.int .i64) (.pr (.int .i64) (.int .i64))))))), (3, (.ref 64000000 [])), (4, (.val (.int .i64)))], [(64000000, 204, (.st (.pr (.int .i64) (.pr (.int .i64) (.int .i64)))), false)], []⟩
def laws_toEdgeS_l0_x0 : Head := ⟨[(3, (.ref 64000000 []))], [(64000000, 204, (.st (.pr (.int .i64) (.pr (.int .i64) (.int .i64)))), false)], []⟩
def laws_toEdgeS_l0_F (k n : Nat) (x : laws_toEdgeS_l0_h.T) (kx : Nat → St → Option (List (Int × Int × Int))) : Option (List (Int × Int × Int)) := laws_toEdgeS_l0 k n x.1.1 x.1.2.2.1 x.2.1.1 (fun (q_6 : List (Int × Int × Int)) => kx 0 (laws_toEdgeS_l0_x0.fill (((), ()), (q_6, ()), ())))
def laws_toEdgeS_O (k : Nat) : Oracles (List (Int × Int × Int)) := ⟨fun n => bif Nat.beq n 3 then some (fun σ kx => laws_toEdgeS_l0_h.get σ fun x => laws_toEdgeS_l0_F k k x kx) else none, fun _ => none⟩
def fe_laws_toEdgeS (k : Nat) : FE := ⟨(.sl 250 (.st (.pr (.int .i64) (.pr (.int .i64) (.int .i64))))), 1, (.sl 204 (.st (.pr (.int .i64) (.pr (.int .i64) (.int .i64))))), fun x => laws_toEdgeS k x⟩
theorem laws_toEdgeS_l0_ok (k : Nat) : LoopOK (mkEnv ti [(221, fe_laws_toEdge)] (lk []) pins0 pinB0) (laws_toEdgeS_O k) (rdC (mkEnv ti [(221, fe_laws_toEdge)] (lk []) pins0 pinB0) [.tmp 2] (.sl 204 (.st (.pr (.int .i64) (.pr (.int .i64) (.int .i64)))))) ((loopsOf (codeOf Try.f167)).getD 0 .skip) (fun σ kx => laws_toEdgeS_l0_h.get σ fun x => laws_toEdgeS_l0_F k k x kx) := by
  refine ⟨laws_toEdgeS_l0_h, [(0, laws_toEdgeS_l0_x0)], fun n x kx => laws_toEdgeS_l0_F k n x kx, k, by kernel_rfl, by kernel_rfl, fun x kx => by kernel_rfl, ?_, fun σ kx => rfl⟩
  rintro n ⟨⟨a0, ⟨⟩, i4, ⟨⟩⟩, ⟨q_1, ⟨⟩⟩, ⟨⟩⟩ kx
  kernel_rfl
theorem ok_laws_toEdgeS (k : Nat) : FnOK Try.prog 167 (fe_laws_toEdgeS k) := by
  refine closed_ok (tab := [(221, fe_laws_toEdge)]) (l := []) ti_ok ti_ht mix (List.forall_mem_cons.2 ⟨ok_laws_toEdge, (List.forall_mem_nil _)⟩) (List.forall_mem_nil _) ⟨⟨Try.f167, (codeOf Try.f167), [.tmp 2], (laws_toEdgeS_O k), by kernel_rfl, by kernel_rfl, by kernel_rfl, by kernel_rfl, rfl, by decide, ⟨by kernel_rfl, ?_, ?_⟩, ?_⟩⟩
  · refine loops_of (n := 1) (by kernel_rfl) fun i hi => ?_
    match i, hi with
    | 0, _ => exact loop_of (by kernel_rfl) (laws_toEdgeS_l0_ok k)
    | n + 1, hi => omega
  · exact no_cuts (by kernel_rfl)
  · rintro a0
    kernel_rfl
/- 93 loop.example/g01005/laws.toGraph -/
def laws_toGraph (k : Nat) (a0 : Int × List (Int × Int × Int)) : Option (Int × List (Int × Int × Int)) := (laws_toEdgeS k a0.2).bind fun r_1 => some (a0.1, r_1)
def fe_laws_toGraph (k : Nat) : FE := ⟨(.st (.pr (.int .i64) (.sl 250 (.st (.pr (.int .i64) (.pr (.int .i64) (.int .i64))))))), 1, (.st (.pr (.int .i64) (.sl 204 (.st (.pr (.int .i64) (.pr (.int .i64) (.int .i64))))))), fun x => laws_toGraph k x⟩
theorem ok_laws_toGraph (k : Nat) : FnOK Try.prog 93 (fe_laws_toGraph k) := by
  refine closed_ok (tab := [(167, fe_laws_toEdgeS k)]) (l := []) ti_ok ti_ht mix (List.forall_mem_cons.2 ⟨ok_laws_toEdgeS k, (List.forall_mem_nil _)⟩) (List.forall_mem_nil _) ⟨⟨Try.f93, (codeOf Try.f93), [.cell 2 76], (LOn (Int × List (Int × Int × Int))), by kernel_rfl, by kernel_rfl, by kernel_rfl, by kernel_rfl, rfl, by decide, ⟨by kernel_rfl, ?_, ?_⟩, ?_⟩⟩
  · exact no_loops (by kernel_rfl)
  · exact no_cuts (by kernel_rfl)
  · rintro a0
    kernel_rfl
/- 168 loop.example/g01005/laws.toTable -/
def laws_toTable (k : Nat) (a0 : List Int × List (List Int)) : Option (List Int × List (List Int)) := (laws_toInt64S k a0.1).bind fun r_1 => (laws_toInt64SS k a0.2).bind fun r_2 => some (r_1, r_2)
def fe_laws_toTable (k : Nat) : FE := ⟨(.st (.pr (.sl 2 (.int .i64)) (.sl 54 (.sl 2 (.int .i64))))), 1, (.st (.pr (.sl 2 (.int .i64)) (.sl 54 (.sl 2 (.int .i64))))), fun x => laws_toTable k x⟩
theorem ok_laws_toTable (k : Nat) : FnOK Try.prog 168 (fe_laws_toTable k) := by
  refine closed_ok (tab := [(92, fe_laws_toInt64S k), (71, fe_laws_toInt64SS k)]) (l := []) ti_ok ti_ht mix (List.forall_mem_cons.2 ⟨ok_laws_toInt64S k, (List.forall_mem_cons.2 ⟨ok_laws_toInt64SS k, (List.forall_mem_nil _)⟩)⟩) (List.forall_mem_nil _) ⟨⟨Try.f168, (codeOf Try.f168), [.cell 2 135], (LOn (List Int × List (List Int))), by kernel_rfl, by kernel_rfl, by kernel_rfl, by kernel_rfl, rfl, by decide, ⟨by kernel_rfl, ?_, ?_⟩, ?_⟩⟩
  · exact no_loops (by kernel_rfl)
  · exact no_cuts (by kernel_rfl)
  · rintro a0
    kernel_rfl
/- 95 loop.example/g01005/laws.toTableS -/
def laws_toTableS_l0 (k : Nat) : Nat → (List (List Int × List (List Int))) → Int → (List (List Int × List (List Int))) → ((List (List Int × List (List Int))) → Option (List (List Int × List (List Int)))) → Option (List (List Int × List (List Int)))
  | 0, _, _, _, _ => none
  | n + 1, a0, i4, q_1, e_0 => (if (decide (i4 < (List.length a0 : Int))) = true then (if 0 ≤ i4 then (a0[i4.toNat]?).bind fun y_2 => (laws_toTable k y_2).bind fun r_3 => (if 0 ≤ i4 ∧ i4.toNat < List.length q_1 then (q_1[i4.toNat]?).bind fun y_4 => (q_1[i4.toNat]?).bind fun y_5 => laws_toTableS_l0 k n a0 (w_i64 (i4 + 1)) (q_1.set i4.toNat (r_3.1, r_3.2)) e_0 else none) else none) else e_0 q_1)
def laws_toTableS (k : Nat) (a0 : List (List Int × List (List Int))) : Option (List (List Int × List (List Int))) := (if 0 ≤ (List.length a0 : Int) ∧ (List.length a0 : Int) ≤ (List.length a0 : Int) ∧ (List.length a0 : Int) * 48 ≤ LIM then laws_toTableS_l0 k k a0 0 (List.replicate (List.length a0) ([], [])) (fun q_6 => some q_6) else none)
def laws_toTableS_l0_h : Head := ⟨[(0, (.val (.sl 200 (.st (.pr (.sl 2 (.int .i64)) (.sl 54 (.sl 2 (.int .i64)))))))), (3, (.ref 64000000 [])), (4, (.val (.int .i64)))], [(64000000, 135, (.st (.pr (.sl 2 (.int .i64)) (.sl 54 (.sl 2 (.int .i64))))), false)], []⟩
def laws_toTableS_l0_x0 : Head := ⟨[(3, (.ref 64000000 []))], [(64000000, 135, (.st (.pr (.sl 2 (.int .i64)) (.sl 54 (.sl 2 (.int .i64))))), false)], []⟩
def laws_toTableS_l0_F (k n : Nat) (x : laws_toTableS_l0_h.T) (kx : Nat → St → Option (List (List Int × List (List Int)))) : Option (List (List Int × List (List Int))) := laws_toTableS_l0 k n x.1.1 x.1.2.2.1 x.2.1.1 (fun (q_6 : List (List Int × List (List Int))) => kx 0 (laws_toTableS_l0_x0.fill (((), ()), (q_6, ()), ())))
def laws_toTableS_O (k : Nat) : Oracles (List (List Int × List (List Int))) := ⟨fun n => bif Nat.beq n 3 then some (fun σ kx => laws_toTableS_l0_h.get σ fun x => laws_toTableS_l0_F k k x kx) else none, fun _ => none⟩
def fe_laws_toTableS (k : Nat) : FE := ⟨(.sl 200 (.st (.pr (.sl 2 (.int .i64)) (.sl 54 (.sl 2 (.int .i64)))))), 1, (.sl 135 (.st (.pr (.sl 2 (.int .i64)) (.sl 54 (.sl 2 (.int .i64)))))), fun x => laws_toTableS k x⟩
theorem laws_toTableS_l0_ok (k : Nat) : LoopOK (mkEnv ti [(168, fe_laws_toTable k)] (lk []) pins0 pinB0) (laws_toTableS_O k) (rdC (mkEnv ti [(168, fe_laws_toTable k)] (lk []) pins0 pinB0) [.tmp 2] (.sl 135 (.st (.pr (.sl 2 (.int .i64)) (.sl 54 (.sl 2 (.int .i64))))))) ((loopsOf (codeOf Try.f95)).getD 0 .skip) (fun σ kx => laws_toTableS_l0_h.get σ fun x => laws_toTableS_l0_F k k x kx) := by
  refine ⟨laws_toTableS_l0_h, [(0, laws_toTableS_l0_x0)], fun n x kx => laws_toTableS_l0_F k n x kx, k, by kernel_rfl, by kernel_rfl, fun x kx => by kernel_rfl, ?_, fun σ kx => rfl⟩
  rintro n ⟨⟨a0, ⟨⟩, i4, ⟨⟩⟩, ⟨q_1, ⟨⟩⟩, ⟨⟩⟩ kx
  kernel_rfl
theorem ok_laws_toTableS (k : Nat) : FnOK Try.prog 95 (fe_laws_toTableS k) := by
  refine closed_ok (tab := [(168, fe_laws_toTable k)]) (l := []) ti_ok ti_ht mix (List.forall_mem_cons.2 ⟨ok_laws_toTable k, (List.forall_mem_nil _)⟩) (List.forall_mem_nil _) ⟨⟨Try.f95, (codeOf Try.f95), [.tmp 2], (laws_toTableS_O k), by kernel_rfl, by kernel_rfl, by kernel_rfl, by kernel_rfl, rfl, by decide, ⟨by kernel_rfl, ?_, ?_⟩, ?_⟩⟩
  · refine loops_of (n := 1) (by kernel_rfl) fun i hi => ?_
    match i, hi with
    | 0, _ => exact loop_of (by kernel_rfl) (laws_toTableS_l0_ok k)
    | n + 1, hi => omega
  · exact no_cuts (by kernel_rfl)
  · rintro a0
    kernel_rfl
/- 96 loop.example/g01005/laws.toFiltration -/
def laws_toFiltration (k : Nat) (a0 : List (List Int) × List Int) : Option (List (List Int) × List Int) := (laws_toComplex k a0.1).bind fun r_1 => (laws_toInt64S k a0.2).bind fun r_2 => some (r_1, r_2)
def fe_laws_toFiltration (k : Nat) : FE := ⟨(.st (.pr (.st (.sl 54 (.sl 2 (.int .i64)))) (.sl 2 (.int .i64)))), 1, (.st (.pr (.st (.sl 54 (.sl 2 (.int .i64)))) (.sl 2 (.int .i64)))), fun x => laws_toFiltration k x⟩
theorem ok_laws_toFiltration (k : Nat) : FnOK Try.prog 96 (fe_laws_toFiltration k) := by
  refine closed_ok (tab := [(27, fe_laws_toComplex k), (92, fe_laws_toInt64S k)]) (l := []) ti_ok ti_ht mix (List.forall_mem_cons.2 ⟨ok_laws_toComplex k, (List.forall_mem_cons.2 ⟨ok_laws_toInt64S k, (List.forall_mem_nil _)⟩)⟩) (List.forall_mem_nil _) ⟨⟨Try.f96, (codeOf Try.f96), [.cell 2 80], (LOn (List (List Int) × List Int)), by kernel_rfl, by kernel_rfl, by kernel_rfl, by kernel_rfl, rfl, by decide, ⟨by kernel_rfl, ?_, ?_⟩, ?_⟩⟩
  · exact no_loops (by kernel_rfl)
  · exact no_cuts (by kernel_rfl)
  · rintro a0
    kernel_rfl
/- 183 loop.example/g01005/laws.toStringS -/
def laws_toStringS_l0 (k : Nat) : Nat → (List (List UInt8)) → Int → (List (List UInt8)) → ((List (List UInt8)) → Option (List (List UInt8))) → Option (List (List UInt8))
  | 0, _, _, _, _ => none
  | n + 1, a0, i4, q_1, e_0 => (if (decide (i4 < (List.length a0 : Int))) = true then (if 0 ≤ i4 then (a0[i4.toNat]?).bind fun y_2 => (if 0 ≤ i4 ∧ i4.toNat < List.length q_1 then (q_1[i4.toNat]?).bind fun y_3 => (q_1[i4.toNat]?).bind fun y_4 => laws_toStringS_l0 k n a0 (w_i64 (i4 + 1)) (q_1.set i4.toNat y_2) e_0 else none) else none) else e_0 q_1)
def laws_toStringS (k : Nat) (a0 : List (List UInt8)) : Option (List (List UInt8)) := (if 0 ≤ (List.length a0 : Int) ∧ (List.length a0 : Int) ≤ (List.length a0 : Int) ∧ (List.length a0 : Int) * 16 ≤ LIM then laws_toStringS_l0 k k a0 0 (List.replicate (List.length a0) []) (fun q_5 => some q_5) else none)
def laws_toStringS_l0_h : Head := ⟨[(0, (.val (.sl 9 .str))), (3, (.ref 64000000 [])), (4, (.val (.int .i64)))], [(64000000, 9, .str, false)], []⟩
def laws_toStringS_l0_x0 : Head := ⟨[(3, (.ref 64000000 []))], [(64000000, 9, .str, false)], []⟩
def laws_toStringS_l0_F (k n : Nat) (x : laws_toStringS_l0_h.T) (kx : Nat → St → Option (List (List UInt8))) : Option (List (List UInt8)) := laws_toStringS_l0 k n x.1.1 x.1.2.2.1 x.2.1.1 (fun (q_5 : List (List UInt8)) => kx 0 (laws_toStringS_l0_x0.fill (((), ()), (q_5, ()), ())))
def laws_toStringS_O (k : Nat) : Oracles (List (List UInt8)) := ⟨fun n => bif Nat.beq n 3 then some (fun σ kx => laws_toStringS_l0_h.get σ fun x => laws_toStringS_l0_F k k x kx) else none, fun _ => none⟩
def fe_laws_toStringS (k : Nat) : FE := ⟨(.sl 9 .str), 1, (.sl 9 .str), fun x => laws_toStringS k x⟩
theorem laws_toStringS_l0_ok (k : Nat) : LoopOK (mkEnv ti [] (lk []) pins0 pinB0) (laws_toStringS_O k) (rdC (mkEnv ti [] (lk []) pins0 pinB0) [.tmp 2] (.sl 9 .str)) ((loopsOf (codeOf Try.f183)).getD 0 .skip) (fun σ kx => laws_toStringS_l0_h.get σ fun x => laws_toStringS_l0_F k k x kx) := by
  refine ⟨laws_toStringS_l0_h, [(0, laws_toStringS_l0_x0)], fun n x kx => laws_toStringS_l0_F k n x kx, k, by kernel_rfl, by kernel_rfl, fun x kx => by kernel_rfl, ?_, fun σ kx => rfl⟩
  rintro n ⟨⟨a0, ⟨⟩, i4, ⟨⟩⟩, ⟨q_1, ⟨⟩⟩, ⟨⟩⟩ kx
  kernel_rfl
theorem ok_laws_toStringS (k : Nat) : FnOK Try.prog 183 (fe_laws_toStringS k) := by
  refine closed_ok (tab := []) (l := []) ti_ok ti_ht mix (List.forall_mem_nil _) (List.forall_mem_nil _) ⟨⟨Try.f183, (codeOf Try.f183), [.tmp 2], (laws_toStringS_O k), by kernel_rfl, by kernel_rfl, by kernel_rfl, by kernel_rfl, rfl, by decide, ⟨by kernel_rfl, ?_, ?_⟩, ?_⟩⟩
  · refine loops_of (n := 1) (by kernel_rfl) fun i hi => ?_
    match i, hi with
    | 0, _ => exact loop_of (by kernel_rfl) (laws_toStringS_l0_ok k)
    | n + 1, hi => omega
  · exact no_cuts (by kernel_rfl)
  · rintro a0
    kernel_rfl
/- 118 loop.example/g01005/laws.toItem -/
def laws_toItem (k : Nat) (a0 : List UInt8 × List (List UInt8) × Int × Int) : Option (List UInt8 × List (List UInt8) × Int × Int) := (laws_toStringS k a0.2.1).bind fun r_1 => some (a0.1, (r_1, (a0.2.2.1, a0.2.2.2)))
def fe_laws_toItem (k : Nat) : FE := ⟨(.st (.pr .str (.pr (.sl 9 .str) (.pr (.int .i64) (.int .i64))))), 1, (.st (.pr .str (.pr (.sl 9 .str) (.pr (.int .i64) (.int .i64))))), fun x => laws_toItem k x⟩
theorem ok_laws_toItem (k : Nat) : FnOK Try.prog 118 (fe_laws_toItem k) := by
  refine closed_ok (tab := [(183, fe_laws_toStringS k)]) (l := []) ti_ok ti_ht mix (List.forall_mem_cons.2 ⟨ok_laws_toStringS k, (List.forall_mem_nil _)⟩) (List.forall_mem_nil _) ⟨⟨Try.f118, (codeOf Try.f118), [.cell 2 156], (LOn (List UInt8 × List (List UInt8) × Int × Int)), by kernel_rfl, by kernel_rfl, by kernel_rfl, by kernel_rfl, rfl, by decide, ⟨by kernel_rfl, ?_, ?_⟩, ?_⟩⟩
  · exact no_loops (by kernel_rfl)
  · exact no_cuts (by kernel_rfl)
  · rintro a0
    kernel_rfl
/- 47 loop.example/g01005/laws.toItemS -/
def laws_toItemS_l0 (k : Nat) : Nat → (List (List UInt8 × List (List UInt8) × Int × Int)) → Int → (List (List UInt8 × List (List UInt8) × Int × Int)) → ((List (List UInt8 × List (List UInt8) × Int × Int)) → Option (List (List UInt8 × List (List UInt8) × Int × Int))) → Option (List (List UInt8 × List (List UInt8) × Int × Int))
  | 0, _, _, _, _ => none
  | n + 1, a0, i4, q_1, e_0 => (if (decide (i4 < (List.length a0 : Int))) = true then (if 0 ≤ i4 then (a0[i4.toNat]?).bind fun y_2 => (laws_toItem k y_2).bind fun r_3 => (if 0 ≤ i4 ∧ i4.toNat < List.length q_1 then (q_1[i4.toNat]?).bind fun y_4 => (q_1[i4.toNat]?).bind fun y_5 => laws_toItemS_l0 k n a0 (w_i64 (i4 + 1)) (q_1.set i4.toNat (r_3.1, (r_3.2.1, (r_3.2.2.1, r_3.2.2.2)))) e_0 else none) else none) else e_0 q_1)
def laws_toItemS (k : Nat) (a0 : List (List UInt8 × List (List UInt8) × Int × Int)) : Option (List (List UInt8 × List (List UInt8) × Int × Int)) := (if 0 ≤ (List.length a0 : Int) ∧ (List.length a0 : Int) ≤ (List.length a0 : Int) ∧ (List.length a0 : Int) * 56 ≤ LIM then laws_toItemS_l0 k k a0 0 (List.replicate (List.length a0) ([], ([], (0, 0)))) (fun q_6 => some q_6) else none)
def laws_toItemS_l0_h : Head := ⟨[(0, (.val (.sl 151 (.st (.pr .str (.pr (.sl 9 .str) (.pr (.int .i64) (.int .i64)))))))), (3, (.ref 64000000 [])), (4, (.val (.int .i64)))], [(64000000, 156, (.st (.pr .str (.pr (.sl 9 .str) (.pr (.int .i64) (.int .i64))))), false)], []⟩
def laws_toItemS_l0_x0 : Head := ⟨[(3, (.ref 64000000 []))], [(64000000, 156, (.st (.pr .str (.pr (.sl 9 .str) (.pr (.int .i64) (.int .i64))))), false)], []⟩
def laws_toItemS_l0_F (k n : Nat) (x : laws_toItemS_l0_h.T) (kx : Nat → St → Option (List (List UInt8 × List (List UInt8) × Int × Int))) : Option (List (List UInt8 × List (List UInt8) × Int × Int)) := laws_toItemS_l0 k n x.1.1 x.1.2.2.1 x.2.1.1 (fun (q_6 : List (List UInt8 × List (List UInt8) × Int × Int)) => kx 0 (laws_toItemS_l0_x0.fill (((), ()), (q_6, ()), ())))
def laws_toItemS_O (k : Nat) : Oracles (List (List UInt8 × List (List UInt8) × Int × Int)) := ⟨fun n => bif Nat.beq n 3 then some (fun σ kx => laws_toItemS_l0_h.get σ fun x => laws_toItemS_l0_F k k x kx) else none, fun _ => none⟩
def fe_laws_toItemS (k : Nat) : FE := ⟨(.sl 151 (.st (.pr .str (.pr (.sl 9 .str) (.pr (.int .i64) (.int .i64)))))), 1, (.sl 156 (.st (.pr .str (.pr (.sl 9 .str) (.pr (.int .i64) (.int .i64)))))), fun x => laws_toItemS k x⟩
theorem laws_toItemS_l0_ok (k : Nat) : LoopOK (mkEnv ti [(118, fe_laws_toItem k)] (lk []) pins0 pinB0) (laws_toItemS_O k) (rdC (mkEnv ti [(118, fe_laws_toItem k)] (lk []) pins0 pinB0) [.tmp 2] (.sl 156 (.st (.pr .str (.pr (.sl 9 .str) (.pr (.int .i64) (.int .i64))))))) ((loopsOf (codeOf Try.f47)).getD 0 .skip) (fun σ kx => laws_toItemS_l0_h.get σ fun x => laws_toItemS_l0_F k k x kx) := by
  refine ⟨laws_toItemS_l0_h, [(0, laws_toItemS_l0_x0)], fun n x kx => laws_toItemS_l0_F k n x kx, k, by kernel_rfl, by kernel_rfl, fun x kx => by kernel_rfl, ?_, fun σ kx => rfl⟩
  rintro n ⟨⟨a0, ⟨⟩, i4, ⟨⟩⟩, ⟨q_1, ⟨⟩⟩, ⟨⟩⟩ kx
  kernel_rfl
theorem ok_laws_toItemS (k : Nat) : FnOK Try.prog 47 (fe_laws_toItemS k) := by
  refine closed_ok (tab := [(118, fe_laws_toItem k)]) (l := []) ti_ok ti_ht mix (List.forall_mem_cons.2 ⟨ok_laws_toItem k, (List.forall_mem_nil _)⟩) (List.forall_mem_nil _) ⟨⟨Try.f47, (codeOf Try.f47), [.tmp 2], (laws_toItemS_O k), by kernel_rfl, by kernel_rfl, by kernel_rfl, by kernel_rfl, rfl, by decide, ⟨by kernel_rfl, ?_, ?_⟩, ?_⟩⟩
  · refine loops_of (n := 1) (by kernel_rfl) fun i hi => ?_
    match i, hi with
    | 0, _ => exact loop_of (by kernel_rfl) (laws_toItemS_l0_ok k)
    | n + 1, hi => omega
  · exact no_cuts (by kernel_rfl)
  · rintro a0
    kernel_rfl
/- 36 loop.example/g01005/laws.toDesk -/
def laws_toDesk (k : Nat) (a0 : (List (List Int) × Int × List Int × List (Int × Int × Int × List Int)) × List Int × (Int × List (Int × Int × Int)) × List Int × (Int × Int × Int × List Int) × (List (List Int × List (List Int))) × (List (List Int) × List Int) × List (List UInt8 × List (List UInt8) × Int × Int)) : Option ((List (List Int) × Int × List Int × List (Int × Int × Int × List Int)) × List Int × (Int × List (Int × Int × Int)) × List Int × (Int × Int × Int × List Int) × (List (List Int × List (List Int))) × (List (List Int) × List Int) × List (List UInt8 × List (List UInt8) × Int × Int)) := (laws_toSheaf k a0.1).bind fun r_1 => (laws_toInt64S k a0.2.1).bind fun r_2 => (laws_toGraph k a0.2.2.1).bind fun r_3 => (laws_toInt64S k a0.2.2.2.1).bind fun r_4 => (laws_toMatrix k a0.2.2.2.2.1).bind fun r_5 => (laws_toTableS k a0.2.2.2.2.2.1).bind fun r_6 => (laws_toFiltration k a0.2.2.2.2.2.2.1).bind fun r_7 => (laws_toItemS k a0.2.2.2.2.2.2.2).bind fun r_8 => some ((r_1.1, (r_1.2.1, (r_1.2.2.1, r_1.2.2.2))), (r_2, ((r_3.1, r_3.2), (r_4, ((r_5.1, (r_5.2.1, (r_5.2.2.1, r_5.2.2.2))), (r_6, ((r_7.1, r_7.2), r_8)))))))
def fe_laws_toDesk (k : Nat) : FE := ⟨(.st (.pr (.st (.pr (.st (.sl 54 (.sl 2 (.int .i64)))) (.pr (.int .i64) (.pr (.sl 2 (.int .i64)) (.sl 62 (.st (.pr (.int .i64) (.pr (.int .i64) (.pr (.int .i64) (.sl 2 (.int .i64))))))))))) (.pr (.sl 2 (.int .i64)) (.pr (.st (.pr (.int .i64) (.sl 250 (.st (.pr (.int .i64) (.pr (.int .i64) (.int .i64))))))) (.pr (.sl 2 (.int .i64)) (.pr (.st (.pr (.int .i64) (.pr (.int .i64) (.pr (.int .i64) (.sl 2 (.int .i64)))))) (.pr (.sl 200 (.st (.pr (.sl 2 (.int .i64)) (.sl 54 (.sl 2 (.int .i64)))))) (.pr (.st (.pr (.st (.sl 54 (.sl 2 (.int .i64)))) (.sl 2 (.int .i64)))) (.sl 151 (.st (.pr .str (.pr (.sl 9 .str) (.pr (.int .i64) (.int .i64)))))))))))))), 1, (.st (.pr (.st (.pr (.st (.sl 54 (.sl 2 (.int .i64)))) (.pr (.int .i64) (.pr (.sl 2 (.int .i64)) (.sl 77 (.st (.pr (.int .i64) (.pr (.int .i64) (.pr (.int .i64) (.sl 2 (.int .i64))))))))))) (.pr (.sl 2 (.int .i64)) (.pr (.st (.pr (.int .i64) (.sl 204 (.st (.pr (.int .i64) (.pr (.int .i64) (.int .i64))))))) (.pr (.sl 2 (.int .i64)) (.pr (.st (.pr (.int .i64) (.pr (.int .i64) (.pr (.int .i64) (.sl 2 (.int .i64)))))) (.pr (.sl 135 (.st (.pr (.sl 2 (.int .i64)) (.sl 54 (.sl 2 (.int .i64)))))) (.pr (.st (.pr (.st (.sl 54 (.sl 2 (.int .i64)))) (.sl 2 (.int .i64)))) (.sl 156 (.st (.pr .str (.pr (.sl 9 .str) (.pr (.int .i64) (.int .i64)))))))))))))), fun x => laws_toDesk k x⟩
theorem ok_laws_toDesk (k : Nat) : FnOK Try.prog 36 (fe_laws_toDesk k) := by
  refine closed_ok (tab := [(91, fe_laws_toSheaf k), (92, fe_laws_toInt64S k), (93, fe_laws_toGraph k), (94, fe_laws_toMatrix k), (95, fe_laws_toTableS k), (96, fe_laws_toFiltration k), (47, fe_laws_toItemS k)]) (l := []) ti_ok ti_ht mix (List.forall_mem_cons.2 ⟨ok_laws_toSheaf k, (List.forall_mem_cons.2 ⟨ok_laws_toInt64S k, (List.forall_mem_cons.2 ⟨ok_laws_toGraph k, (List.forall_mem_cons.2 ⟨ok_laws_toMatrix k, (List.forall_mem_cons.2 ⟨ok_laws_toTableS k, (List.forall_mem_cons.2 ⟨ok_laws_toFiltration k, (List.forall_mem_cons.2 ⟨ok_laws_toItemS k, (List.forall_mem_nil _)⟩)⟩)⟩)⟩)⟩)⟩)⟩) (List.forall_mem_nil _) ⟨⟨Try.f36, (codeOf Try.f36), [.cell 2 83], (LOn ((List (List Int) × Int × List Int × List (Int × Int × Int × List Int)) × List Int × (Int × List (Int × Int × Int)) × List Int × (Int × Int × Int × List Int) × (List (List Int × List (List Int))) × (List (List Int) × List Int) × List (List UInt8 × List (List UInt8) × Int × Int))), by kernel_rfl, by kernel_rfl, by kernel_rfl, by kernel_rfl, rfl, by decide, ⟨by kernel_rfl, ?_, ?_⟩, ?_⟩⟩
  · exact no_loops (by kernel_rfl)
  · exact no_cuts (by kernel_rfl)
  · rintro a0
    kernel_rfl
/- 85 loop.example/g01005/spec.l00Same -/
def spec_l00Same_l0 (k : Nat) : Nat → (List Int) → (List Int) → Int → (Option Bool) → Option Bool
  | 0, _, _, _, _ => none
  | n + 1, a0, b1, i5, e_0 => (if (decide (i5 < (List.length a0 : Int))) = true then (if 0 ≤ i5 then (a0[i5.toNat]?).bind fun y_1 => (if 0 ≤ i5 then (b1[i5.toNat]?).bind fun y_2 => (if (!(decide (y_1 = y_2))) = true then some false else spec_l00Same_l0 k n a0 b1 (w_i64 (i5 + 1)) e_0) else none) else none) else e_0)
def spec_l00Same (k : Nat) (a0 : List Int) (b1 : List Int) : Option Bool := (if (!(decide ((List.length a0 : Int) = (List.length b1 : Int)))) = true then some false else spec_l00Same_l0 k k a0 b1 0 (some true))
def spec_l00Same_l0_h : Head := ⟨[(0, (.val (.sl 2 (.int .i64)))), (1, (.val (.sl 2 (.int .i64)))), (5, (.val (.int .i64)))], [], []⟩
def spec_l00Same_l0_x0 : Head := ⟨[], [], []⟩
def spec_l00Same_l0_F (k n : Nat) (x : spec_l00Same_l0_h.T) (kx : Nat → St → Option Bool) : Option Bool := spec_l00Same_l0 k n x.1.1 x.1.2.1 x.1.2.2.1 (kx 0 (spec_l00Same_l0_x0.fill ((), (), ())))
def spec_l00Same_O (k : Nat) : Oracles Bool := ⟨fun n => bif Nat.beq n 4 then some (fun σ kx => spec_l00Same_l0_h.get σ fun x => spec_l00Same_l0_F k k x kx) else none, fun _ => none⟩
def fe_spec_l00Same (k : Nat) : FE := ⟨(.pr (.sl 2 (.int .i64)) (.sl 2 (.int .i64))), 1, .bool, fun x => spec_l00Same k x.1 x.2⟩
theorem spec_l00Same_l0_ok (k : Nat) : LoopOK (mkEnv ti [] (lk []) pins0 pinB0) (spec_l00Same_O k) (rdC (mkEnv ti [] (lk []) pins0 pinB0) [.tmp 4] .bool) ((loopsOf (codeOf Try.f85)).getD 0 .skip) (fun σ kx => spec_l00Same_l0_h.get σ fun x => spec_l00Same_l0_F k k x kx) := by
  refine ⟨spec_l00Same_l0_h, [(0, spec_l00Same_l0_x0)], fun n x kx => spec_l00Same_l0_F k n x kx, k, by kernel_rfl, by kernel_rfl, fun x kx => by kernel_rfl, ?_, fun σ kx => rfl⟩
  rintro n ⟨⟨a0, b1, i5, ⟨⟩⟩, ⟨⟩, ⟨⟩⟩ kx
  kernel_rfl
theorem ok_spec_l00Same (k : Nat) : FnOK Try.prog 85 (fe_spec_l00Same k) := by
  refine closed_ok (tab := []) (l := []) ti_ok ti_ht mix (List.forall_mem_nil _) (List.forall_mem_nil _) ⟨⟨Try.f85, (codeOf Try.f85), [.tmp 4], (spec_l00Same_O k), by kernel_rfl, by kernel_rfl, by kernel_rfl, by kernel_rfl, rfl, by decide, ⟨by kernel_rfl, ?_, ?_⟩, ?_⟩⟩
  · refine loops_of (n := 1) (by kernel_rfl) fun i hi => ?_
    match i, hi with
    | 0, _ => exact loop_of (by kernel_rfl) (spec_l00Same_l0_ok k)
    | n + 1, hi => omega
  · exact no_cuts (by kernel_rfl)
  · rintro ⟨a0, b1⟩
    kernel_rfl
/- 164 loop.example/g01005/spec.l05Same -/
def spec_l05Same_l0 (k : Nat) : Nat → (List (List Int)) → (List (List Int)) → Int → (Option Bool) → Option Bool
  | 0, _, _, _, _ => none
  | n + 1, a0, b1, i5, e_0 => (if (decide (i5 < (List.length a0 : Int))) = true then (if 0 ≤ i5 then (a0[i5.toNat]?).bind fun y_1 => (if 0 ≤ i5 then (b1[i5.toNat]?).bind fun y_2 => (spec_l00Same k y_1 y_2).bind fun r_3 => (if (!r_3) = true then some false else spec_l05Same_l0 k n a0 b1 (w_i64 (i5 + 1)) e_0) else none) else none) else e_0)
def spec_l05Same (k : Nat) (a0 : List (List Int)) (b1 : List (List Int)) : Option Bool := (if (!(decide ((List.length a0 : Int) = (List.length b1 : Int)))) = true then some false else spec_l05Same_l0 k k a0 b1 0 (some true))
def spec_l05Same_l0_h : Head := ⟨[(0, (.val (.ptr (.st (.sl 54 (.sl 2 (.int .i64))))))), (1, (.val (.ptr (.st (.sl 54 (.sl 2 (.int .i64))))))), (5, (.val (.int .i64)))], [], []⟩
def spec_l05Same_l0_x0 : Head := ⟨[], [], []⟩
def spec_l05Same_l0_F (k n : Nat) (x : spec_l05Same_l0_h.T) (kx : Nat → St → Option Bool) : Option Bool := spec_l05Same_l0 k n x.1.1 x.1.2.1 x.1.2.2.1 (kx 0 (spec_l05Same_l0_x0.fill ((), (), ())))
def spec_l05Same_O (k : Nat) : Oracles Bool := ⟨fun n => bif Nat.beq n 4 then some (fun σ kx => spec_l05Same_l0_h.get σ fun x => spec_l05Same_l0_F k k x kx) else none, fun _ => none⟩
def fe_spec_l05Same (k : Nat) : FE := ⟨(.pr (.ptr (.st (.sl 54 (.sl 2 (.int .i64))))) (.ptr (.st (.sl 54 (.sl 2 (.int .i64)))))), 1, .bool, fun x => spec_l05Same k x.1 x.2⟩
theorem spec_l05Same_l0_ok (k : Nat) : LoopOK (mkEnv ti [(85, fe_spec_l00Same k)] (lk []) pins0 pinB0) (spec_l05Same_O k) (rdC (mkEnv ti [(85, fe_spec_l00Same k)] (lk []) pins0 pinB0) [.tmp 4] .bool) ((loopsOf (codeOf Try.f164)).getD 0 .skip) (fun σ kx => spec_l05Same_l0_h.get σ fun x => spec_l05Same_l0_F k k x kx) := by
  refine ⟨spec_l05Same_l0_h, [(0, spec_l05Same_l0_x0)], fun n x kx => spec_l05Same_l0_F k n x kx, k, by kernel_rfl, by kernel_rfl, fun x kx => by kernel_rfl, ?_, fun σ kx => rfl⟩
  rintro n ⟨⟨a0, b1, i5, ⟨⟩⟩, ⟨⟩, ⟨⟩⟩ kx
  kernel_rfl
theorem ok_spec_l05Same (k : Nat) : FnOK Try.prog 164 (fe_spec_l05Same k) := by
  refine closed_ok (tab := [(85, fe_spec_l00Same k)]) (l := []) ti_ok ti_ht mix (List.forall_mem_cons.2 ⟨ok_spec_l00Same k, (List.forall_mem_nil _)⟩) (List.forall_mem_nil _) ⟨⟨Try.f164, (codeOf Try.f164), [.tmp 4], (spec_l05Same_O k), by kernel_rfl, by kernel_rfl, by kernel_rfl, by kernel_rfl, rfl, by decide, ⟨by kernel_rfl, ?_, ?_⟩, ?_⟩⟩
  · refine loops_of (n := 1) (by kernel_rfl) fun i hi => ?_
    match i, hi with
    | 0, _ => exact loop_of (by kernel_rfl) (spec_l05Same_l0_ok k)
    | n + 1, hi => omega
  · exact no_cuts (by kernel_rfl)
  · rintro ⟨a0, b1⟩
    kernel_rfl
/- 162 loop.example/g01005/spec.l03Same -/
def spec_l03Same_l0 (k : Nat) : Nat → (Int × Int × Int × List Int) → (Int × Int × Int × List Int) → Int → (Option Bool) → Option Bool
  | 0, _, _, _, _ => none
  | n + 1, a0, b1, i5, e_0 => (if (decide (i5 < (List.length a0.2.2.2 : Int))) = true then (if 0 ≤ i5 then (a0.2.2.2[i5.toNat]?).bind fun y_1 => (if 0 ≤ i5 then (b1.2.2.2[i5.toNat]?).bind fun y_2 => (if (!(decide (y_1 = y_2))) = true then some false else spec_l03Same_l0 k n a0 b1 (w_i64 (i5 + 1)) e_0) else none) else none) else e_0)
def spec_l03Same (k : Nat) (a0 : Int × Int × Int × List Int) (b1 : Int × Int × Int × List Int) : Option Bool := (if (!(decide (a0.1 = b1.1))) = true then some false else (if (!(decide (a0.2.1 = b1.2.1))) = true then some false else (if (!(decide (a0.2.2.1 = b1.2.2.1))) = true then some false else (if (!(decide ((List.length a0.2.2.2 : Int) = (List.length b1.2.2.2 : Int)))) = true then some false else spec_l03Same_l0 k k a0 b1 0 (some true)))))
def spec_l03Same_l0_h : Head := ⟨[(0, (.val (.ptr (.st (.pr (.int .i64) (.pr (.int .i64) (.pr (.int .i64) (.sl 2 (.int .i64))))))))), (1, (.val (.ptr (.st (.pr (.int .i64) (.pr (.int .i64) (.pr (.int .i64) (.sl 2 (.int .i64))))))))), (5, (.val (.int .i64)))], [], []⟩
def spec_l03Same_l0_x0 : Head := ⟨[], [], []⟩
def spec_l03Same_l0_F (k n : Nat) (x : spec_l03Same_l0_h.T) (kx : Nat → St → Option Bool) : Option Bool := spec_l03Same_l0 k n x.1.1 x.1.2.1 x.1.2.2.1 (kx 0 (spec_l03Same_l0_x0.fill ((), (), ())))
def spec_l03Same_O (k : Nat) : Oracles Bool := ⟨fun n => bif Nat.beq n 4 then some (fun σ kx => spec_l03Same_l0_h.get σ fun x => spec_l03Same_l0_F k k x kx) else none, fun _ => none⟩
def fe_spec_l03Same (k : Nat) : FE := ⟨(.pr (.ptr (.st (.pr (.int .i64) (.pr (.int .i64) (.pr (.int .i64) (.sl 2 (.int .i64))))))) (.ptr (.st (.pr (.int .i64) (.pr (.int .i64) (.pr (.int .i64) (.sl 2 (.int .i64)))))))), 1, .bool, fun x => spec_l03Same k x.1 x.2⟩
theorem spec_l03Same_l0_ok (k : Nat) : LoopOK (mkEnv ti [] (lk []) pins0 pinB0) (spec_l03Same_O k) (rdC (mkEnv ti [] (lk []) pins0 pinB0) [.tmp 4] .bool) ((loopsOf (codeOf Try.f162)).getD 0 .skip) (fun σ kx => spec_l03Same_l0_h.get σ fun x => spec_l03Same_l0_F k k x kx) := by
  refine ⟨spec_l03Same_l0_h, [(0, spec_l03Same_l0_x0)], fun n x kx => spec_l03Same_l0_F k n x kx, k, by kernel_rfl, by kernel_rfl, fun x kx => by kernel_rfl, ?_, fun σ kx => rfl⟩
  rintro n ⟨⟨a0, b1, i5, ⟨⟩⟩, ⟨⟩, ⟨⟩⟩ kx
  kernel_rfl
theorem ok_spec_l03Same (k : Nat) : FnOK Try.prog 162 (fe_spec_l03Same k) := by
  refine closed_ok (tab := []) (l := []) ti_ok ti_ht mix (List.forall_mem_nil _) (List.forall_mem_nil _) ⟨⟨Try.f162, (codeOf Try.f162), [.tmp 4], (spec_l03Same_O k), by kernel_rfl, by kernel_rfl, by kernel_rfl, by kernel_rfl, rfl, by decide, ⟨by kernel_rfl, ?_, ?_⟩, ?_⟩⟩
  · refine loops_of (n := 1) (by kernel_rfl) fun i hi => ?_
    match i, hi with
    | 0, _ => exact loop_of (by kernel_rfl) (spec_l03Same_l0_ok k)
    | n + 1, hi => omega
  · exact no_cuts (by kernel_rfl)
  · rintro ⟨a0, b1⟩
    kernel_rfl
/- 161 loop.example/g01005/spec.l09Same -/
def spec_l09Same_l0 (k : Nat) : Nat → (List (List Int) × Int × List Int × List (Int × Int × Int × List Int)) → (List (List Int) × Int × List Int × List (Int × Int × Int × List Int)) → Int → (Option Bool) → Option Bool
  | 0, _, _, _, _ => none
  | n + 1, a0, b1, i5, e_0 => (if (decide (i5 < (List.length a0.2.2.2 : Int))) = true then (if 0 ≤ i5 then (a0.2.2.2[i5.toNat]?).bind fun y_3 => (if 0 ≤ i5 then (b1.2.2.2[i5.toNat]?).bind fun y_4 => (spec_l03Same k y_3 y_4).bind fun r_5 => (if (!r_5) = true then some false else spec_l09Same_l0 k n a0 b1 (w_i64 (i5 + 1)) e_0) else none) else none) else e_0)
def spec_l09Same (k : Nat) (a0 : List (List Int) × Int × List Int × List (Int × Int × Int × List Int)) (b1 : List (List Int) × Int × List Int × List (Int × Int × Int × List Int)) : Option Bool := (spec_l05Same k a0.1 b1.1).bind fun r_1 => (if (!r_1) = true then some false else (if (!(decide (a0.2.1 = b1.2.1))) = true then some false else (spec_l00Same k a0.2.2.1 b1.2.2.1).bind fun r_2 => (if (!r_2) = true then some false else (if (!(decide ((List.length a0.2.2.2 : Int) = (List.length b1.2.2.2 : Int)))) = true then some false else spec_l09Same_l0 k k a0 b1 0 (some true)))))
def spec_l09Same_l0_h : Head := ⟨[(0, (.val (.ptr (.st (.pr (.st (.sl 54 (.sl 2 (.int .i64)))) (.pr (.int .i64) (.pr (.sl 2 (.int .i64)) (.sl 77 (.st (.pr (.int .i64) (.pr (.int .i64) (.pr (.int .i64) (.sl 2 (.int .i64)))))))))))))), (1, (.val (.ptr (.st (.pr (.st (.sl 54 (.sl 2 (.int .i64)))) (.pr (.int .i64) (.pr (.sl 2 (.int .i64)) (.sl 77 (.st (.pr (.int .i64) (.pr (.int .i64) (.pr (.int .i64) (.sl 2 (.int .i64)))))))))))))), (5, (.val (.int .i64)))], [], []⟩
def spec_l09Same_l0_x0 : Head := ⟨[], [], []⟩
def spec_l09Same_l0_F (k n : Nat) (x : spec_l09Same_l0_h.T) (kx : Nat → St → Option Bool) : Option Bool := spec_l09Same_l0 k n x.1.1 x.1.2.1 x.1.2.2.1 (kx 0 (spec_l09Same_l0_x0.fill ((), (), ())))
def spec_l09Same_O (k : Nat) : Oracles Bool := ⟨fun n => bif Nat.beq n 4 then some (fun σ kx => spec_l09Same_l0_h.get σ fun x => spec_l09Same_l0_F k k x kx) else none, fun _ => none⟩
def fe_spec_l09Same (k : Nat) : FE := ⟨(.pr (.ptr (.st (.pr (.st (.sl 54 (.sl 2 (.int .i64)))) (.pr (.int .i64) (.pr (.sl 2 (.int .i64)) (.sl 77 (.st (.pr (.int .i64) (.pr (.int .i64) (.pr (.int .i64) (.sl 2 (.int .i64)))))))))))) (.ptr (.st (.pr (.st (.sl 54 (.sl 2 (.int .i64)))) (.pr (.int .i64) (.pr (.sl 2 (.int .i64)) (.sl 77 (.st (.pr (.int .i64) (.pr (.int .i64) (.pr (.int .i64) (.sl 2 (.int .i64))))))))))))), 1, .bool, fun x => spec_l09Same k x.1 x.2⟩
theorem spec_l09Same_l0_ok (k : Nat) : LoopOK (mkEnv ti [(164, fe_spec_l05Same k), (85, fe_spec_l00Same k), (162, fe_spec_l03Same k)] (lk []) pins0 pinB0) (spec_l09Same_O k) (rdC (mkEnv ti [(164, fe_spec_l05Same k), (85, fe_spec_l00Same k), (162, fe_spec_l03Same k)] (lk []) pins0 pinB0) [.tmp 4] .bool) ((loopsOf (codeOf Try.f161)).getD 0 .skip) (fun σ kx => spec_l09Same_l0_h.get σ fun x => spec_l09Same_l0_F k k x kx) := by
  refine ⟨spec_l09Same_l0_h, [(0, spec_l09Same_l0_x0)], fun n x kx => spec_l09Same_l0_F k n x kx, k, by kernel_rfl, by kernel_rfl, fun x kx => by kernel_rfl, ?_, fun σ kx => rfl⟩
  rintro n ⟨⟨a0, b1, i5, ⟨⟩⟩, ⟨⟩, ⟨⟩⟩ kx
  kernel_rfl
theorem ok_spec_l09Same (k : Nat) : FnOK Try.prog 161 (fe_spec_l09Same k) := by
  refine closed_ok (tab := [(164, fe_spec_l05Same k), (85, fe_spec_l00Same k), (162, fe_spec_l03Same k)]) (l := []) ti_ok ti_ht mix (List.forall_mem_cons.2 ⟨ok_spec_l05Same k, (List.forall_mem_cons.2 ⟨ok_spec_l00Same k, (List.forall_mem_cons.2 ⟨ok_spec_l03Same k, (List.forall_mem_nil _)⟩)⟩)⟩) (List.forall_mem_nil _) ⟨⟨Try.f161, (codeOf Try.f161), [.tmp 4], (spec_l09Same_O k), by kernel_rfl, by kernel_rfl, by kernel_rfl, by kernel_rfl, rfl, by decide, ⟨by kernel_rfl, ?_, ?_⟩, ?_⟩⟩
  · refine loops_of (n := 1) (by kernel_rfl) fun i hi => ?_
    match i, hi with
    | 0, _ => exact loop_of (by kernel_rfl) (spec_l09Same_l0_ok k)
    | n + 1, hi => omega
  · exact no_cuts (by kernel_rfl)
  · rintro ⟨a0, b1⟩
    kernel_rfl
/- 84 loop.example/g01005/spec.SameSheaf -/
def spec_SameSheaf (k : Nat) (a0 : List (List Int) × Int × List Int × List (Int × Int × Int × List Int)) (b1 : List (List Int) × Int × List Int × List (Int × Int × Int × List Int)) : Option Bool := (spec_l09Same k a0 b1).bind fun r_1 => some r_1
def fe_spec_SameSheaf (k : Nat) : FE := ⟨(.pr (.st (.pr (.st (.sl 54 (.sl 2 (.int .i64)))) (.pr (.int .i64) (.pr (.sl 2 (.int .i64)) (.sl 77 (.st (.pr (.int .i64) (.pr (.int .i64) (.pr (.int .i64) (.sl 2 (.int .i64))))))))))) (.st (.pr (.st (.sl 54 (.sl 2 (.int .i64)))) (.pr (.int .i64) (.pr (.sl 2 (.int .i64)) (.sl 77 (.st (.pr (.int .i64) (.pr (.int .i64) (.pr (.int .i64) (.sl 2 (.int .i64)))))))))))), 1, .bool, fun x => spec_SameSheaf k x.1 x.2⟩
theorem ok_spec_SameSheaf (k : Nat) : FnOK Try.prog 84 (fe_spec_SameSheaf k) := by
  refine closed_ok (tab := [(161, fe_spec_l09Same k)]) (l := []) ti_ok ti_ht mix (List.forall_mem_cons.2 ⟨ok_spec_l09Same k, (List.forall_mem_nil _)⟩) (List.forall_mem_nil _) ⟨⟨Try.f84, (codeOf Try.f84), [.tmp 4], (LOn Bool), by kernel_rfl, by kernel_rfl, by kernel_rfl, by kernel_rfl, rfl, by decide, ⟨by kernel_rfl, ?_, ?_⟩, ?_⟩⟩
  · exact no_loops (by kernel_rfl)
  · exact no_cuts (by kernel_rfl)
  · rintro ⟨a0, b1⟩
    kernel_rfl
/- 86 loop.example/g01005/spec.SameGraph -/
def spec_SameGraph_l0 (k : Nat) : Nat → Int → (Int × List (Int × Int × Int)) → (Int × List (Int × Int × Int)) → (Option Bool) → Option Bool
  | 0, _, _, _, _ => none
  | n + 1, i5, v_2, v_3, e_0 => (if (decide (i5 < (List.length v_2.2 : Int))) = true then (if 0 ≤ i5 then (v_2.2[i5.toNat]?).bind fun y_1 => (if 0 ≤ i5 then (v_3.2[i5.toNat]?).bind fun y_2 => (if (!(decide (y_1 = y_2))) = true then some false else spec_SameGraph_l0 k n (w_i64 (i5 + 1)) v_2 v_3 e_0) else none) else none) else e_0)
def spec_SameGraph (k : Nat) (a0 : Int × List (Int × Int × Int)) (b1 : Int × List (Int × Int × Int)) : Option Bool := (if (!(decide (a0.1 = b1.1))) = true then some false else (if (!(decide ((List.length a0.2 : Int) = (List.length b1.2 : Int)))) = true then some false else spec_SameGraph_l0 k k 0 a0 b1 (some true)))
def spec_SameGraph_l0_h : Head := ⟨[(2, (.bp 2 [] 0)), (3, (.bp 3 [] 0)), (5, (.val (.int .i64)))], [], [(2, 76, (.val (.st (.pr (.int .i64) (.sl 204 (.st (.pr (.int .i64) (.pr (.int .i64) (.int .i64))))))))), (3, 76, (.val (.st (.pr (.int .i64) (.sl 204 (.st (.pr (.int .i64) (.pr (.int .i64) (.int .i64)))))))))]⟩
def spec_SameGraph_l0_x0 : Head := ⟨[], [], []⟩
def spec_SameGraph_l0_F (k n : Nat) (x : spec_SameGraph_l0_h.T) (kx : Nat → St → Option Bool) : Option Bool := spec_SameGraph_l0 k n x.1.2.2.1 x.2.2.1 x.2.2.2.1 (kx 0 (spec_SameGraph_l0_x0.fill ((), (), ())))
def spec_SameGraph_O (k : Nat) : Oracles Bool := ⟨fun n => bif Nat.beq n 4 then some (fun σ kx => spec_SameGraph_l0_h.get σ fun x => spec_SameGraph_l0_F k k x kx) else none, fun _ => none⟩
def fe_spec_SameGraph (k : Nat) : FE := ⟨(.pr (.st (.pr (.int .i64) (.sl 204 (.st (.pr (.int .i64) (.pr (.int .i64) (.int .i64))))))) (.st (.pr (.int .i64) (.sl 204 (.st (.pr (.int .i64) (.pr (.int .i64) (.int .i64)))))))), 1, .bool, fun x => spec_SameGraph k x.1 x.2⟩
theorem spec_SameGraph_l0_ok (k : Nat) : LoopOK (mkEnv ti [] (lk []) pins0 pinB0) (spec_SameGraph_O k) (rdC (mkEnv ti [] (lk []) pins0 pinB0) [.tmp 4] .bool) ((loopsOf (codeOf Try.f86)).getD 0 .skip) (fun σ kx => spec_SameGraph_l0_h.get σ fun x => spec_SameGraph_l0_F k k x kx) := by
  refine ⟨spec_SameGraph_l0_h, [(0, spec_SameGraph_l0_x0)], fun n x kx => spec_SameGraph_l0_F k n x kx, k, by kernel_rfl, by kernel_rfl, fun x kx => by kernel_rfl, ?_, fun σ kx => rfl⟩
  rintro n ⟨⟨⟨⟩, ⟨⟩, i5, ⟨⟩⟩, ⟨⟩, ⟨v_2, v_3, ⟨⟩⟩⟩ kx
  kernel_rfl
theorem ok_spec_SameGraph (k : Nat) : FnOK Try.prog 86 (fe_spec_SameGraph k) := by
  refine closed_ok (tab := []) (l := []) ti_ok ti_ht mix (List.forall_mem_nil _) (List.forall_mem_nil _) ⟨⟨Try.f86, (codeOf Try.f86), [.tmp 4], (spec_SameGraph_O k), by kernel_rfl, by kernel_rfl, by kernel_rfl, by kernel_rfl, rfl, by decide, ⟨by kernel_rfl, ?_, ?_⟩, ?_⟩⟩
  · refine loops_of (n := 1) (by kernel_rfl) fun i hi => ?_
    match i, hi with
    | 0, _ => exact loop_of (by kernel_rfl) (spec_SameGraph_l0_ok k)
    | n + 1, hi => omega
  · exact no_cuts (by kernel_rfl)
  · rintro ⟨a0, b1⟩
    kernel_rfl
/- 87 loop.example/g01005/spec.SameMatrix -/
def spec_SameMatrix (k : Nat) (a0 : Int × Int × Int × List Int) (b1 : Int × Int × Int × List Int) : Option Bool := (spec_l03Same k a0 b1).bind fun r_1 => some r_1
def fe_spec_SameMatrix (k : Nat) : FE := ⟨(.pr (.st (.pr (.int .i64) (.pr (.int .i64) (.pr (.int .i64) (.sl 2 (.int .i64)))))) (.st (.pr (.int .i64) (.pr (.int .i64) (.pr (.int .i64) (.sl 2 (.int .i64))))))), 1, .bool, fun x => spec_SameMatrix k x.1 x.2⟩
theorem ok_spec_SameMatrix (k : Nat) : FnOK Try.prog 87 (fe_spec_SameMatrix k) := by
  refine closed_ok (tab := [(162, fe_spec_l03Same k)]) (l := []) ti_ok ti_ht mix (List.forall_mem_cons.2 ⟨ok_spec_l03Same k, (List.forall_mem_nil _)⟩) (List.forall_mem_nil _) ⟨⟨Try.f87, (codeOf Try.f87), [.tmp 4], (LOn Bool), by kernel_rfl, by kernel_rfl, by kernel_rfl, by kernel_rfl, rfl, by decide, ⟨by kernel_rfl, ?_, ?_⟩, ?_⟩⟩
  · exact no_loops (by kernel_rfl)
  · exact no_cuts (by kernel_rfl)
  · rintro ⟨a0, b1⟩
    kernel_rfl
end
end Go.Proofs.Ytackggcodaolaaa.Ev
