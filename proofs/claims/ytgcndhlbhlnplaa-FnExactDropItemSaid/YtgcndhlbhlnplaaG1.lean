/- Functions of the program, as plain ones. No conditions. -/
import Derived.Test.YtgcndhlbhlnplaaG0
import Derived.KernelRfl
set_option linter.unusedVariables false
set_option maxRecDepth 100000
namespace Go.Proofs.Ytgcndhlbhlnplaa.Ev
open Go.RowKit
noncomputable section
/- 24 loop.example/g01005/laws.szStringS -/
def laws_szStringS_l0 (k : Nat) : Nat → (List (List UInt8)) → Int → Int → (Int → Option Int) → Option Int
  | 0, _, _, _, _ => none
  | n + 1, a0, left1, i5, e_0 => (if (decide (i5 < (List.length a0 : Int))) = true then (if 0 ≤ i5 then (a0[i5.toNat]?).bind fun y_1 => (if (decide ((w_i64 (left1 - (List.length y_1 : Int))) < 0)) = true then some (-1) else laws_szStringS_l0 k n a0 (w_i64 (left1 - (List.length y_1 : Int))) (w_i64 (i5 + 1)) e_0) else none) else e_0 left1)
def laws_szStringS (k : Nat) (a0 : List (List UInt8)) (left1 : Int) : Option Int := (if (decide ((w_i64 (left1 - (List.length a0 : Int))) < 0)) = true then some (-1) else laws_szStringS_l0 k k a0 (w_i64 (left1 - (List.length a0 : Int))) 0 (fun left_2 => some left_2))
def laws_szStringS_l0_h : Head := ⟨[(0, (.val (.sl 9 .str))), (1, (.val (.int .i64))), (5, (.val (.int .i64)))], [], []⟩
def laws_szStringS_l0_x0 : Head := ⟨[(1, (.val (.int .i64)))], [], []⟩
def laws_szStringS_l0_F (k n : Nat) (x : laws_szStringS_l0_h.T) (kx : Nat → St → Option Int) : Option Int := laws_szStringS_l0 k n x.1.1 x.1.2.1 x.1.2.2.1 (fun (left1 : Int) => kx 0 (laws_szStringS_l0_x0.fill ((left1, ()), (), ())))
def laws_szStringS_O (k : Nat) : Oracles Int := ⟨fun n => bif Nat.beq n 5 then some (fun σ kx => laws_szStringS_l0_h.get σ fun x => laws_szStringS_l0_F k k x kx) else none, fun _ => none⟩
def fe_laws_szStringS (k : Nat) : FE := ⟨(.pr (.sl 9 .str) (.int .i64)), 1, (.int .i64), fun x => laws_szStringS k x.1 x.2⟩
theorem laws_szStringS_l0_ok (k : Nat) : LoopOK (mkEnv ti [] (lk []) pins0 pinB0) (laws_szStringS_O k) (rdC (mkEnv ti [] (lk []) pins0 pinB0) [.tmp 4] (.int .i64)) ((loopsOf (codeOf Try.f24)).getD 0 .skip) (fun σ kx => laws_szStringS_l0_h.get σ fun x => laws_szStringS_l0_F k k x kx) := by
  refine ⟨laws_szStringS_l0_h, [(0, laws_szStringS_l0_x0)], fun n x kx => laws_szStringS_l0_F k n x kx, k, by kernel_rfl, by kernel_rfl, fun x kx => by kernel_rfl, ?_, fun σ kx => rfl⟩
  rintro n ⟨⟨a0, left1, i5, ⟨⟩⟩, ⟨⟩, ⟨⟩⟩ kx
  kernel_rfl
theorem ok_laws_szStringS (k : Nat) : FnOK Try.prog 24 (fe_laws_szStringS k) := by
  refine closed_ok (tab := []) (l := []) ti_ok ti_ht mix (List.forall_mem_nil _) (List.forall_mem_nil _) ⟨⟨Try.f24, (codeOf Try.f24), [.tmp 4], (laws_szStringS_O k), by kernel_rfl, by kernel_rfl, by kernel_rfl, by kernel_rfl, rfl, by decide, ⟨by kernel_rfl, ?_, ?_⟩, ?_⟩⟩
  · refine loops_of (n := 1) (by kernel_rfl) fun i hi => ?_
    match i, hi with
    | 0, _ => exact loop_of (by kernel_rfl) (laws_szStringS_l0_ok k)
    | n + 1, hi => omega
  · exact no_cuts (by kernel_rfl)
  · rintro ⟨a0, left1⟩
    kernel_rfl
/- 11 loop.example/g01005/laws.szItem -/
def laws_szItem (k : Nat) (a0 : List UInt8 × List (List UInt8) × Int × Int) (left1 : Int) : Option Int := (if (decide ((w_i64 (left1 - (List.length a0.1 : Int))) < 0)) = true then some (-1) else (laws_szStringS k a0.2.1 (w_i64 (left1 - (List.length a0.1 : Int)))).bind fun r_1 => (if (decide (r_1 < 0)) = true then some (-1) else some r_1))
def fe_laws_szItem (k : Nat) : FE := ⟨(.pr (.st (.pr .str (.pr (.sl 9 .str) (.pr (.int .i64) (.int .i64))))) (.int .i64)), 1, (.int .i64), fun x => laws_szItem k x.1 x.2⟩
theorem ok_laws_szItem (k : Nat) : FnOK Try.prog 11 (fe_laws_szItem k) := by
  refine closed_ok (tab := [(24, fe_laws_szStringS k)]) (l := []) ti_ok ti_ht mix (List.forall_mem_cons.2 ⟨ok_laws_szStringS k, (List.forall_mem_nil _)⟩) (List.forall_mem_nil _) ⟨⟨Try.f11, (codeOf Try.f11), [.tmp 4], (LOn Int), by kernel_rfl, by kernel_rfl, by kernel_rfl, by kernel_rfl, rfl, by decide, ⟨by kernel_rfl, ?_, ?_⟩, ?_⟩⟩
  · exact no_loops (by kernel_rfl)
  · exact no_cuts (by kernel_rfl)
  · rintro ⟨a0, left1⟩
    kernel_rfl
/- 4 loop.example/g01005/laws.szItemS -/
def laws_szItemS_l0 (k : Nat) : Nat → (List (List UInt8 × List (List UInt8) × Int × Int)) → Int → Int → (Int → Option Int) → Option Int
  | 0, _, _, _, _ => none
  | n + 1, a0, left1, i5, e_0 => (if (decide (i5 < (List.length a0 : Int))) = true then (if 0 ≤ i5 then (a0[i5.toNat]?).bind fun y_1 => (laws_szItem k y_1 left1).bind fun r_2 => (if (decide (r_2 < 0)) = true then some (-1) else laws_szItemS_l0 k n a0 r_2 (w_i64 (i5 + 1)) e_0) else none) else e_0 left1)
def laws_szItemS (k : Nat) (a0 : List (List UInt8 × List (List UInt8) × Int × Int)) (left1 : Int) : Option Int := (if (decide ((w_i64 (left1 - (List.length a0 : Int))) < 0)) = true then some (-1) else laws_szItemS_l0 k k a0 (w_i64 (left1 - (List.length a0 : Int))) 0 (fun left_3 => some left_3))
def laws_szItemS_l0_h : Head := ⟨[(0, (.val (.sl 34 (.st (.pr .str (.pr (.sl 9 .str) (.pr (.int .i64) (.int .i64)))))))), (1, (.val (.int .i64))), (5, (.val (.int .i64)))], [], []⟩
def laws_szItemS_l0_x0 : Head := ⟨[(1, (.val (.int .i64)))], [], []⟩
def laws_szItemS_l0_F (k n : Nat) (x : laws_szItemS_l0_h.T) (kx : Nat → St → Option Int) : Option Int := laws_szItemS_l0 k n x.1.1 x.1.2.1 x.1.2.2.1 (fun (left1 : Int) => kx 0 (laws_szItemS_l0_x0.fill ((left1, ()), (), ())))
def laws_szItemS_O (k : Nat) : Oracles Int := ⟨fun n => bif Nat.beq n 5 then some (fun σ kx => laws_szItemS_l0_h.get σ fun x => laws_szItemS_l0_F k k x kx) else none, fun _ => none⟩
def fe_laws_szItemS (k : Nat) : FE := ⟨(.pr (.sl 34 (.st (.pr .str (.pr (.sl 9 .str) (.pr (.int .i64) (.int .i64)))))) (.int .i64)), 1, (.int .i64), fun x => laws_szItemS k x.1 x.2⟩
theorem laws_szItemS_l0_ok (k : Nat) : LoopOK (mkEnv ti [(11, fe_laws_szItem k)] (lk []) pins0 pinB0) (laws_szItemS_O k) (rdC (mkEnv ti [(11, fe_laws_szItem k)] (lk []) pins0 pinB0) [.tmp 4] (.int .i64)) ((loopsOf (codeOf Try.f4)).getD 0 .skip) (fun σ kx => laws_szItemS_l0_h.get σ fun x => laws_szItemS_l0_F k k x kx) := by
  refine ⟨laws_szItemS_l0_h, [(0, laws_szItemS_l0_x0)], fun n x kx => laws_szItemS_l0_F k n x kx, k, by kernel_rfl, by kernel_rfl, fun x kx => by kernel_rfl, ?_, fun σ kx => rfl⟩
  rintro n ⟨⟨a0, left1, i5, ⟨⟩⟩, ⟨⟩, ⟨⟩⟩ kx
  kernel_rfl
theorem ok_laws_szItemS (k : Nat) : FnOK Try.prog 4 (fe_laws_szItemS k) := by
  refine closed_ok (tab := [(11, fe_laws_szItem k)]) (l := []) ti_ok ti_ht mix (List.forall_mem_cons.2 ⟨ok_laws_szItem k, (List.forall_mem_nil _)⟩) (List.forall_mem_nil _) ⟨⟨Try.f4, (codeOf Try.f4), [.tmp 4], (laws_szItemS_O k), by kernel_rfl, by kernel_rfl, by kernel_rfl, by kernel_rfl, rfl, by decide, ⟨by kernel_rfl, ?_, ?_⟩, ?_⟩⟩
  · refine loops_of (n := 1) (by kernel_rfl) fun i hi => ?_
    match i, hi with
    | 0, _ => exact loop_of (by kernel_rfl) (laws_szItemS_l0_ok k)
    | n + 1, hi => omega
  · exact no_cuts (by kernel_rfl)
  · rintro ⟨a0, left1⟩
    kernel_rfl
/- 28 loop.example/g01005/laws.toStringS -/
def laws_toStringS_l0 (k : Nat) : Nat → (List (List UInt8)) → Int → (List (List UInt8)) → ((List (List UInt8)) → Option (List (List UInt8))) → Option (List (List UInt8))
  | 0, _, _, _, _ => none
  | n + 1, a0, i4, q_1, e_0 => (if (decide (i4 < (List.length a0 : Int))) = true then (if 0 ≤ i4 then (a0[i4.toNat]?).bind fun y_2 => (if 0 ≤ i4 ∧ i4.toNat < List.length q_1 then (q_1[i4.toNat]?).bind fun y_3 => (q_1[i4.toNat]?).bind fun y_4 => laws_toStringS_l0 k n a0 (w_i64 (i4 + 1)) (q_1.set i4.toNat y_2) e_0 else none) else none) else e_0 q_1)
def laws_toStringS (k : Nat) (a0 : List (List UInt8)) : Option (List (List UInt8)) := (if 0 ≤ (List.length a0 : Int) ∧ (List.length a0 : Int) ≤ (List.length a0 : Int) ∧ (List.length a0 : Int) * 16 ≤ LIM then laws_toStringS_l0 k k a0 0 (List.replicate (List.length a0) ([] : List UInt8)) (fun q_5 => some q_5) else none)
def laws_toStringS_l0_h : Head := ⟨[(0, (.val (.sl 9 .str))), (3, (.ref 64000000 [])), (4, (.val (.int .i64)))], [(64000000, 9, .str, false)], []⟩
def laws_toStringS_l0_x0 : Head := ⟨[(3, (.ref 64000000 []))], [(64000000, 9, .str, false)], []⟩
def laws_toStringS_l0_F (k n : Nat) (x : laws_toStringS_l0_h.T) (kx : Nat → St → Option (List (List UInt8))) : Option (List (List UInt8)) := laws_toStringS_l0 k n x.1.1 x.1.2.2.1 x.2.1.1 (fun (q_5 : List (List UInt8)) => kx 0 (laws_toStringS_l0_x0.fill (((), ()), (q_5, ()), ())))
def laws_toStringS_O (k : Nat) : Oracles (List (List UInt8)) := ⟨fun n => bif Nat.beq n 3 then some (fun σ kx => laws_toStringS_l0_h.get σ fun x => laws_toStringS_l0_F k k x kx) else none, fun _ => none⟩
def fe_laws_toStringS (k : Nat) : FE := ⟨(.sl 9 .str), 1, (.sl 9 .str), fun x => laws_toStringS k x⟩
theorem laws_toStringS_l0_ok (k : Nat) : LoopOK (mkEnv ti [] (lk []) pins0 pinB0) (laws_toStringS_O k) (rdC (mkEnv ti [] (lk []) pins0 pinB0) [.tmp 2] (.sl 9 .str)) ((loopsOf (codeOf Try.f28)).getD 0 .skip) (fun σ kx => laws_toStringS_l0_h.get σ fun x => laws_toStringS_l0_F k k x kx) := by
  refine ⟨laws_toStringS_l0_h, [(0, laws_toStringS_l0_x0)], fun n x kx => laws_toStringS_l0_F k n x kx, k, by kernel_rfl, by kernel_rfl, fun x kx => by kernel_rfl, ?_, fun σ kx => rfl⟩
  rintro n ⟨⟨a0, ⟨⟩, i4, ⟨⟩⟩, ⟨q_1, ⟨⟩⟩, ⟨⟩⟩ kx
  kernel_rfl
theorem ok_laws_toStringS (k : Nat) : FnOK Try.prog 28 (fe_laws_toStringS k) := by
  refine closed_ok (tab := []) (l := []) ti_ok ti_ht mix (List.forall_mem_nil _) (List.forall_mem_nil _) ⟨⟨Try.f28, (codeOf Try.f28), [.tmp 2], (laws_toStringS_O k), by kernel_rfl, by kernel_rfl, by kernel_rfl, by kernel_rfl, rfl, by decide, ⟨by kernel_rfl, ?_, ?_⟩, ?_⟩⟩
  · refine loops_of (n := 1) (by kernel_rfl) fun i hi => ?_
    match i, hi with
    | 0, _ => exact loop_of (by kernel_rfl) (laws_toStringS_l0_ok k)
    | n + 1, hi => omega
  · exact no_cuts (by kernel_rfl)
  · rintro a0
    kernel_rfl
/- 15 loop.example/g01005/laws.toItem -/
def laws_toItem (k : Nat) (a0 : List UInt8 × List (List UInt8) × Int × Int) : Option (List UInt8 × List (List UInt8) × Int × Int) := (laws_toStringS k a0.2.1).bind fun r_1 => some (a0.1, (r_1, (a0.2.2.1, a0.2.2.2)))
def fe_laws_toItem (k : Nat) : FE := ⟨(.st (.pr .str (.pr (.sl 9 .str) (.pr (.int .i64) (.int .i64))))), 1, (.st (.pr .str (.pr (.sl 9 .str) (.pr (.int .i64) (.int .i64))))), fun x => laws_toItem k x⟩
theorem ok_laws_toItem (k : Nat) : FnOK Try.prog 15 (fe_laws_toItem k) := by
  refine closed_ok (tab := [(28, fe_laws_toStringS k)]) (l := []) ti_ok ti_ht mix (List.forall_mem_cons.2 ⟨ok_laws_toStringS k, (List.forall_mem_nil _)⟩) (List.forall_mem_nil _) ⟨⟨Try.f15, (codeOf Try.f15), [.cell 2 37], (LOn (List UInt8 × List (List UInt8) × Int × Int)), by kernel_rfl, by kernel_rfl, by kernel_rfl, by kernel_rfl, rfl, by decide, ⟨by kernel_rfl, ?_, ?_⟩, ?_⟩⟩
  · exact no_loops (by kernel_rfl)
  · exact no_cuts (by kernel_rfl)
  · rintro a0
    kernel_rfl
/- 6 loop.example/g01005/laws.toItemS -/
def laws_toItemS_l0 (k : Nat) : Nat → (List (List UInt8 × List (List UInt8) × Int × Int)) → Int → (List (List UInt8 × List (List UInt8) × Int × Int)) → ((List (List UInt8 × List (List UInt8) × Int × Int)) → Option (List (List UInt8 × List (List UInt8) × Int × Int))) → Option (List (List UInt8 × List (List UInt8) × Int × Int))
  | 0, _, _, _, _ => none
  | n + 1, a0, i4, q_1, e_0 => (if (decide (i4 < (List.length a0 : Int))) = true then (if 0 ≤ i4 then (a0[i4.toNat]?).bind fun y_2 => (laws_toItem k y_2).bind fun r_3 => (if 0 ≤ i4 ∧ i4.toNat < List.length q_1 then (q_1[i4.toNat]?).bind fun y_4 => (q_1[i4.toNat]?).bind fun y_5 => laws_toItemS_l0 k n a0 (w_i64 (i4 + 1)) (q_1.set i4.toNat (r_3.1, (r_3.2.1, (r_3.2.2.1, r_3.2.2.2)))) e_0 else none) else none) else e_0 q_1)
def laws_toItemS (k : Nat) (a0 : List (List UInt8 × List (List UInt8) × Int × Int)) : Option (List (List UInt8 × List (List UInt8) × Int × Int)) := (if 0 ≤ (List.length a0 : Int) ∧ (List.length a0 : Int) ≤ (List.length a0 : Int) ∧ (List.length a0 : Int) * 56 ≤ LIM then laws_toItemS_l0 k k a0 0 (List.replicate (List.length a0) ([], ([], (0, 0)))) (fun q_6 => some q_6) else none)
def laws_toItemS_l0_h : Head := ⟨[(0, (.val (.sl 34 (.st (.pr .str (.pr (.sl 9 .str) (.pr (.int .i64) (.int .i64)))))))), (3, (.ref 64000000 [])), (4, (.val (.int .i64)))], [(64000000, 37, (.st (.pr .str (.pr (.sl 9 .str) (.pr (.int .i64) (.int .i64))))), false)], []⟩
def laws_toItemS_l0_x0 : Head := ⟨[(3, (.ref 64000000 []))], [(64000000, 37, (.st (.pr .str (.pr (.sl 9 .str) (.pr (.int .i64) (.int .i64))))), false)], []⟩
def laws_toItemS_l0_F (k n : Nat) (x : laws_toItemS_l0_h.T) (kx : Nat → St → Option (List (List UInt8 × List (List UInt8) × Int × Int))) : Option (List (List UInt8 × List (List UInt8) × Int × Int)) := laws_toItemS_l0 k n x.1.1 x.1.2.2.1 x.2.1.1 (fun (q_6 : List (List UInt8 × List (List UInt8) × Int × Int)) => kx 0 (laws_toItemS_l0_x0.fill (((), ()), (q_6, ()), ())))
def laws_toItemS_O (k : Nat) : Oracles (List (List UInt8 × List (List UInt8) × Int × Int)) := ⟨fun n => bif Nat.beq n 3 then some (fun σ kx => laws_toItemS_l0_h.get σ fun x => laws_toItemS_l0_F k k x kx) else none, fun _ => none⟩
def fe_laws_toItemS (k : Nat) : FE := ⟨(.sl 34 (.st (.pr .str (.pr (.sl 9 .str) (.pr (.int .i64) (.int .i64)))))), 1, (.sl 37 (.st (.pr .str (.pr (.sl 9 .str) (.pr (.int .i64) (.int .i64)))))), fun x => laws_toItemS k x⟩
theorem laws_toItemS_l0_ok (k : Nat) : LoopOK (mkEnv ti [(15, fe_laws_toItem k)] (lk []) pins0 pinB0) (laws_toItemS_O k) (rdC (mkEnv ti [(15, fe_laws_toItem k)] (lk []) pins0 pinB0) [.tmp 2] (.sl 37 (.st (.pr .str (.pr (.sl 9 .str) (.pr (.int .i64) (.int .i64))))))) ((loopsOf (codeOf Try.f6)).getD 0 .skip) (fun σ kx => laws_toItemS_l0_h.get σ fun x => laws_toItemS_l0_F k k x kx) := by
  refine ⟨laws_toItemS_l0_h, [(0, laws_toItemS_l0_x0)], fun n x kx => laws_toItemS_l0_F k n x kx, k, by kernel_rfl, by kernel_rfl, fun x kx => by kernel_rfl, ?_, fun σ kx => rfl⟩
  rintro n ⟨⟨a0, ⟨⟩, i4, ⟨⟩⟩, ⟨q_1, ⟨⟩⟩, ⟨⟩⟩ kx
  kernel_rfl
theorem ok_laws_toItemS (k : Nat) : FnOK Try.prog 6 (fe_laws_toItemS k) := by
  refine closed_ok (tab := [(15, fe_laws_toItem k)]) (l := []) ti_ok ti_ht mix (List.forall_mem_cons.2 ⟨ok_laws_toItem k, (List.forall_mem_nil _)⟩) (List.forall_mem_nil _) ⟨⟨Try.f6, (codeOf Try.f6), [.tmp 2], (laws_toItemS_O k), by kernel_rfl, by kernel_rfl, by kernel_rfl, by kernel_rfl, rfl, by decide, ⟨by kernel_rfl, ?_, ?_⟩, ?_⟩⟩
  · refine loops_of (n := 1) (by kernel_rfl) fun i hi => ?_
    match i, hi with
    | 0, _ => exact loop_of (by kernel_rfl) (laws_toItemS_l0_ok k)
    | n + 1, hi => omega
  · exact no_cuts (by kernel_rfl)
  · rintro a0
    kernel_rfl
/- 44 loop.example/g01005/spec.l01Small -/
def spec_l01Small (c0 : Int) : Option Bool := (if (decide (97 ≤ c0)) = true then some (decide (c0 ≤ 122)) else some false)
def fe_spec_l01Small : FE := ⟨(.int .u8), 1, .bool, fun x => spec_l01Small x⟩
theorem ok_spec_l01Small : FnOK Try.prog 44 (fe_spec_l01Small) := by
  refine closed_ok (tab := []) (l := []) ti_ok ti_ht mix (List.forall_mem_nil _) (List.forall_mem_nil _) ⟨⟨Try.f44, (codeOf Try.f44), [.tmp 2], (LOn Bool), by kernel_rfl, by kernel_rfl, by kernel_rfl, by kernel_rfl, rfl, by decide, ⟨by kernel_rfl, ?_, ?_⟩, ?_⟩⟩
  · exact no_loops (by kernel_rfl)
  · exact no_cuts (by kernel_rfl)
  · rintro c0
    kernel_rfl
/- 45 loop.example/g01005/spec.l01Digit -/
def spec_l01Digit (c0 : Int) : Option Bool := (if (decide (48 ≤ c0)) = true then some (decide (c0 ≤ 57)) else some false)
def fe_spec_l01Digit : FE := ⟨(.int .u8), 1, .bool, fun x => spec_l01Digit x⟩
theorem ok_spec_l01Digit : FnOK Try.prog 45 (fe_spec_l01Digit) := by
  refine closed_ok (tab := []) (l := []) ti_ok ti_ht mix (List.forall_mem_nil _) (List.forall_mem_nil _) ⟨⟨Try.f45, (codeOf Try.f45), [.tmp 2], (LOn Bool), by kernel_rfl, by kernel_rfl, by kernel_rfl, by kernel_rfl, rfl, by decide, ⟨by kernel_rfl, ?_, ?_⟩, ?_⟩⟩
  · exact no_loops (by kernel_rfl)
  · exact no_cuts (by kernel_rfl)
  · rintro c0
    kernel_rfl
/- 37 loop.example/g01005/spec.l01Name -/
def spec_l01Name_l0 (k : Nat) : Nat → (List UInt8) → Int → (Option Bool) → Option Bool
  | 0, _, _, _ => none
  | n + 1, s0, i3, e_0 => (if (decide (i3 < (List.length s0 : Int))) = true then (if 0 ≤ i3 then (s0[i3.toNat]?).bind fun b_3 => (spec_l01Small (z_u8 b_3)).bind fun r_4 => (if (!r_4) = true then (if 0 ≤ i3 then (s0[i3.toNat]?).bind fun b_5 => (spec_l01Digit (z_u8 b_5)).bind fun r_6 => (if (!r_6) = true then some false else spec_l01Name_l0 k n s0 (w_i64 (i3 + 1)) e_0) else none) else spec_l01Name_l0 k n s0 (w_i64 (i3 + 1)) e_0) else none) else e_0)
def spec_l01Name (k : Nat) (s0 : List UInt8) : Option Bool := (if (decide (s0 = [])) = true then some false else (if (decide (10 < (List.length s0 : Int))) = true then some false else (s0[0]?).bind fun b_1 => (spec_l01Small (z_u8 b_1)).bind fun r_2 => (if (!r_2) = true then some false else spec_l01Name_l0 k k s0 0 (some true))))
def spec_l01Name_l0_h : Head := ⟨[(0, (.val .str)), (3, (.val (.int .i64)))], [], []⟩
def spec_l01Name_l0_x0 : Head := ⟨[], [], []⟩
def spec_l01Name_l0_F (k n : Nat) (x : spec_l01Name_l0_h.T) (kx : Nat → St → Option Bool) : Option Bool := spec_l01Name_l0 k n x.1.1 x.1.2.1 (kx 0 (spec_l01Name_l0_x0.fill ((), (), ())))
def spec_l01Name_O (k : Nat) : Oracles Bool := ⟨fun n => bif Nat.beq n 4 then some (fun σ kx => spec_l01Name_l0_h.get σ fun x => spec_l01Name_l0_F k k x kx) else none, fun _ => none⟩
def fe_spec_l01Name (k : Nat) : FE := ⟨.str, 1, .bool, fun x => spec_l01Name k x⟩
theorem spec_l01Name_l0_ok (k : Nat) : LoopOK (mkEnv ti [(44, fe_spec_l01Small), (45, fe_spec_l01Digit)] (lk []) pins0 pinB0) (spec_l01Name_O k) (rdC (mkEnv ti [(44, fe_spec_l01Small), (45, fe_spec_l01Digit)] (lk []) pins0 pinB0) [.tmp 2] .bool) ((loopsOf (codeOf Try.f37)).getD 0 .skip) (fun σ kx => spec_l01Name_l0_h.get σ fun x => spec_l01Name_l0_F k k x kx) := by
  refine ⟨spec_l01Name_l0_h, [(0, spec_l01Name_l0_x0)], fun n x kx => spec_l01Name_l0_F k n x kx, k, by kernel_rfl, by kernel_rfl, fun x kx => by kernel_rfl, ?_, fun σ kx => rfl⟩
  rintro n ⟨⟨s0, i3, ⟨⟩⟩, ⟨⟩, ⟨⟩⟩ kx
  kernel_rfl
theorem ok_spec_l01Name (k : Nat) : FnOK Try.prog 37 (fe_spec_l01Name k) := by
  refine closed_ok (tab := [(44, fe_spec_l01Small), (45, fe_spec_l01Digit)]) (l := []) ti_ok ti_ht mix (List.forall_mem_cons.2 ⟨ok_spec_l01Small, (List.forall_mem_cons.2 ⟨ok_spec_l01Digit, (List.forall_mem_nil _)⟩)⟩) (List.forall_mem_nil _) ⟨⟨Try.f37, (codeOf Try.f37), [.tmp 2], (spec_l01Name_O k), by kernel_rfl, by kernel_rfl, by kernel_rfl, by kernel_rfl, rfl, by decide, ⟨by kernel_rfl, ?_, ?_⟩, ?_⟩⟩
  · refine loops_of (n := 1) (by kernel_rfl) fun i hi => ?_
    match i, hi with
    | 0, _ => exact loop_of (by kernel_rfl) (spec_l01Name_l0_ok k)
    | n + 1, hi => omega
  · exact no_cuts (by kernel_rfl)
  · rintro s0
    kernel_rfl
/- 38 loop.example/g01005/spec.l00In -/
def spec_l00In (n0 : Int) (low1 : Int) (high2 : Int) : Option Bool := (if (decide (low1 ≤ n0)) = true then some (decide (n0 ≤ high2)) else some false)
def fe_spec_l00In : FE := ⟨(.pr (.int .i64) (.pr (.int .i64) (.int .i64))), 1, .bool, fun x => spec_l00In x.1 x.2.1 x.2.2⟩
theorem ok_spec_l00In : FnOK Try.prog 38 (fe_spec_l00In) := by
  refine closed_ok (tab := []) (l := []) ti_ok ti_ht mix (List.forall_mem_nil _) (List.forall_mem_nil _) ⟨⟨Try.f38, (codeOf Try.f38), [.tmp 6], (LOn Bool), by kernel_rfl, by kernel_rfl, by kernel_rfl, by kernel_rfl, rfl, by decide, ⟨by kernel_rfl, ?_, ?_⟩, ?_⟩⟩
  · exact no_loops (by kernel_rfl)
  · exact no_cuts (by kernel_rfl)
  · rintro ⟨n0, low1, high2⟩
    kernel_rfl
/- 25 loop.example/g01005/spec.l28Find -/
def spec_l28Find_l0 (k : Nat) : Nat → (List (List UInt8 × List (List UInt8) × Int × Int)) → (List UInt8) → Int → (Option Int) → Option Int
  | 0, _, _, _, _ => none
  | n + 1, list0, name1, i5, e_0 => (if (decide (i5 < (List.length list0 : Int))) = true then (if 0 ≤ i5 then (list0[i5.toNat]?).bind fun y_1 => (if (decide (y_1.1 = name1)) = true then some i5 else spec_l28Find_l0 k n list0 name1 (w_i64 (i5 + 1)) e_0) else none) else e_0)
def spec_l28Find (k : Nat) (list0 : List (List UInt8 × List (List UInt8) × Int × Int)) (name1 : List UInt8) : Option Int := spec_l28Find_l0 k k list0 name1 0 (some (-1))
def spec_l28Find_l0_h : Head := ⟨[(0, (.val (.sl 37 (.st (.pr .str (.pr (.sl 9 .str) (.pr (.int .i64) (.int .i64)))))))), (1, (.val .str)), (5, (.val (.int .i64)))], [], []⟩
def spec_l28Find_l0_x0 : Head := ⟨[], [], []⟩
def spec_l28Find_l0_F (k n : Nat) (x : spec_l28Find_l0_h.T) (kx : Nat → St → Option Int) : Option Int := spec_l28Find_l0 k n x.1.1 x.1.2.1 x.1.2.2.1 (kx 0 (spec_l28Find_l0_x0.fill ((), (), ())))
def spec_l28Find_O (k : Nat) : Oracles Int := ⟨fun n => bif Nat.beq n 2 then some (fun σ kx => spec_l28Find_l0_h.get σ fun x => spec_l28Find_l0_F k k x kx) else none, fun _ => none⟩
def fe_spec_l28Find (k : Nat) : FE := ⟨(.pr (.sl 37 (.st (.pr .str (.pr (.sl 9 .str) (.pr (.int .i64) (.int .i64)))))) .str), 1, (.int .i64), fun x => spec_l28Find k x.1 x.2⟩
theorem spec_l28Find_l0_ok (k : Nat) : LoopOK (mkEnv ti [] (lk []) pins0 pinB0) (spec_l28Find_O k) (rdC (mkEnv ti [] (lk []) pins0 pinB0) [.tmp 4] (.int .i64)) ((loopsOf (codeOf Try.f25)).getD 0 .skip) (fun σ kx => spec_l28Find_l0_h.get σ fun x => spec_l28Find_l0_F k k x kx) := by
  refine ⟨spec_l28Find_l0_h, [(0, spec_l28Find_l0_x0)], fun n x kx => spec_l28Find_l0_F k n x kx, k, by kernel_rfl, by kernel_rfl, fun x kx => by kernel_rfl, ?_, fun σ kx => rfl⟩
  rintro n ⟨⟨list0, name1, i5, ⟨⟩⟩, ⟨⟩, ⟨⟩⟩ kx
  kernel_rfl
theorem ok_spec_l28Find (k : Nat) : FnOK Try.prog 25 (fe_spec_l28Find k) := by
  refine closed_ok (tab := []) (l := []) ti_ok ti_ht mix (List.forall_mem_nil _) (List.forall_mem_nil _) ⟨⟨Try.f25, (codeOf Try.f25), [.tmp 4], (spec_l28Find_O k), by kernel_rfl, by kernel_rfl, by kernel_rfl, by kernel_rfl, rfl, by decide, ⟨by kernel_rfl, ?_, ?_⟩, ?_⟩⟩
  · refine loops_of (n := 1) (by kernel_rfl) fun i hi => ?_
    match i, hi with
    | 0, _ => exact loop_of (by kernel_rfl) (spec_l28Find_l0_ok k)
    | n + 1, hi => omega
  · exact no_cuts (by kernel_rfl)
  · rintro ⟨list0, name1⟩
    kernel_rfl
/- 26 loop.example/g01005/spec.l28Form -/
def spec_l28Form_l1 (k : Nat) : Nat → (List (List UInt8 × List (List UInt8) × Int × Int)) → Int → Int → (List UInt8 × List (List UInt8) × Int × Int) → ((List (List UInt8 × List (List UInt8) × Int × Int)) → Int → Option Bool) → Option Bool
  | 0, _, _, _, _, _ => none
  | n + 1, list0, i3, k5, v_4, e_2 => (if (decide (k5 < (List.length v_4.2.1 : Int))) = true then (if 0 ≤ k5 then (v_4.2.1[k5.toNat]?).bind fun y_6 => (spec_l28Find k list0 y_6).bind fun r_7 => (if (decide (r_7 < 0)) = true then some false else (if (decide (0 < k5)) = true then (if 0 ≤ (w_i64 (k5 - 1)) then (v_4.2.1[(w_i64 (k5 - 1)).toNat]?).bind fun y_8 => (if 0 ≤ k5 then (v_4.2.1[k5.toNat]?).bind fun y_9 => (if (!(Op.bytesLess y_8 y_9)) = true then some false else spec_l28Form_l1 k n list0 i3 (w_i64 (k5 + 1)) v_4 e_2) else none) else none) else spec_l28Form_l1 k n list0 i3 (w_i64 (k5 + 1)) v_4 e_2)) else none) else e_2 list0 i3)
def spec_l28Form_l0 (k : Nat) : Nat → (List (List UInt8 × List (List UInt8) × Int × Int)) → Int → ((List (List UInt8 × List (List UInt8) × Int × Int)) → Option Bool) → Option Bool
  | 0, _, _, _ => none
  | n + 1, list0, i3, e_0 => (if (decide (i3 < (List.length list0 : Int))) = true then (if 0 ≤ i3 then (list0[i3.toNat]?).bind fun y_1 => (spec_l01Name k y_1.1).bind fun r_2 => (if (!r_2) = true then some false else (if (decide (0 < i3)) = true then (if 0 ≤ (w_i64 (i3 - 1)) then (list0[(w_i64 (i3 - 1)).toNat]?).bind fun y_3 => (if (!(Op.bytesLess y_3.1 y_1.1)) = true then some false else (spec_l00In y_1.2.2.1 0 1000000).bind fun r_4 => (if (!r_4) = true then some false else (spec_l00In y_1.2.2.2 0 1000).bind fun r_5 => (if (!r_5) = true then some false else spec_l28Form_l1 k k list0 i3 0 y_1 (fun list_6 i_7 => spec_l28Form_l0 k n list_6 (w_i64 (i_7 + 1)) e_0)))) else none) else (spec_l00In y_1.2.2.1 0 1000000).bind fun r_8 => (if (!r_8) = true then some false else (spec_l00In y_1.2.2.2 0 1000).bind fun r_9 => (if (!r_9) = true then some false else spec_l28Form_l1 k k list0 i3 0 y_1 (fun list_10 i_11 => spec_l28Form_l0 k n list_10 (w_i64 (i_11 + 1)) e_0))))) else none) else e_0 list0)
def spec_l28Form (k : Nat) (list0 : List (List UInt8 × List (List UInt8) × Int × Int)) : Option Bool := spec_l28Form_l0 k k list0 0 (fun list_12 => some (decide ((List.length list_12 : Int) ≤ 16)))
def spec_l28Form_l1_h : Head := ⟨[(0, (.val (.sl 37 (.st (.pr .str (.pr (.sl 9 .str) (.pr (.int .i64) (.int .i64)))))))), (3, (.val (.int .i64))), (4, (.bp 4 [] 0)), (5, (.val (.int .i64)))], [], [(4, 37, (.val (.st (.pr .str (.pr (.sl 9 .str) (.pr (.int .i64) (.int .i64)))))))]⟩
def spec_l28Form_l1_x2 : Head := ⟨[(0, (.val (.sl 37 (.st (.pr .str (.pr (.sl 9 .str) (.pr (.int .i64) (.int .i64)))))))), (3, (.val (.int .i64)))], [], []⟩
def spec_l28Form_l1_F (k n : Nat) (x : spec_l28Form_l1_h.T) (kx : Nat → St → Option Bool) : Option Bool := spec_l28Form_l1 k n x.1.1 x.1.2.1 x.1.2.2.2.1 x.2.2.1 (fun (list0 : List (List UInt8 × List (List UInt8) × Int × Int)) (i3 : Int) => kx 2 (spec_l28Form_l1_x2.fill ((list0, i3, ()), (), ())))
def spec_l28Form_l0_h : Head := ⟨[(0, (.val (.sl 37 (.st (.pr .str (.pr (.sl 9 .str) (.pr (.int .i64) (.int .i64)))))))), (3, (.val (.int .i64)))], [], []⟩
def spec_l28Form_l0_x0 : Head := ⟨[(0, (.val (.sl 37 (.st (.pr .str (.pr (.sl 9 .str) (.pr (.int .i64) (.int .i64))))))))], [], []⟩
def spec_l28Form_l0_F (k n : Nat) (x : spec_l28Form_l0_h.T) (kx : Nat → St → Option Bool) : Option Bool := spec_l28Form_l0 k n x.1.1 x.1.2.1 (fun (list0 : List (List UInt8 × List (List UInt8) × Int × Int)) => kx 0 (spec_l28Form_l0_x0.fill ((list0, ()), (), ())))
def spec_l28Form_O (k : Nat) : Oracles Bool := ⟨fun n => bif Nat.beq n 8 then some (fun σ kx => spec_l28Form_l1_h.get σ fun x => spec_l28Form_l1_F k k x kx) else bif Nat.beq n 2 then some (fun σ kx => spec_l28Form_l0_h.get σ fun x => spec_l28Form_l0_F k k x kx) else none, fun _ => none⟩
def fe_spec_l28Form (k : Nat) : FE := ⟨(.sl 37 (.st (.pr .str (.pr (.sl 9 .str) (.pr (.int .i64) (.int .i64)))))), 1, .bool, fun x => spec_l28Form k x⟩
theorem spec_l28Form_l1_ok (k : Nat) : LoopOK (mkEnv ti [(37, fe_spec_l01Name k), (38, fe_spec_l00In), (25, fe_spec_l28Find k)] (lk []) pins0 pinB0) (spec_l28Form_O k) (rdC (mkEnv ti [(37, fe_spec_l01Name k), (38, fe_spec_l00In), (25, fe_spec_l28Find k)] (lk []) pins0 pinB0) [.tmp 2] .bool) ((loopsOf (codeOf Try.f26)).getD 1 .skip) (fun σ kx => spec_l28Form_l1_h.get σ fun x => spec_l28Form_l1_F k k x kx) := by
  refine ⟨spec_l28Form_l1_h, [(2, spec_l28Form_l1_x2)], fun n x kx => spec_l28Form_l1_F k n x kx, k, by kernel_rfl, by kernel_rfl, fun x kx => by kernel_rfl, ?_, fun σ kx => rfl⟩
  rintro n ⟨⟨list0, i3, ⟨⟩, k5, ⟨⟩⟩, ⟨⟩, ⟨v_4, ⟨⟩⟩⟩ kx
  kernel_rfl
theorem spec_l28Form_l0_ok (k : Nat) : LoopOK (mkEnv ti [(37, fe_spec_l01Name k), (38, fe_spec_l00In), (25, fe_spec_l28Find k)] (lk []) pins0 pinB0) (spec_l28Form_O k) (rdC (mkEnv ti [(37, fe_spec_l01Name k), (38, fe_spec_l00In), (25, fe_spec_l28Find k)] (lk []) pins0 pinB0) [.tmp 2] .bool) ((loopsOf (codeOf Try.f26)).getD 0 .skip) (fun σ kx => spec_l28Form_l0_h.get σ fun x => spec_l28Form_l0_F k k x kx) := by
  refine ⟨spec_l28Form_l0_h, [(0, spec_l28Form_l0_x0)], fun n x kx => spec_l28Form_l0_F k n x kx, k, by kernel_rfl, by kernel_rfl, fun x kx => by kernel_rfl, ?_, fun σ kx => rfl⟩
  rintro n ⟨⟨list0, i3, ⟨⟩⟩, ⟨⟩, ⟨⟩⟩ kx
  kernel_rfl
theorem ok_spec_l28Form (k : Nat) : FnOK Try.prog 26 (fe_spec_l28Form k) := by
  refine closed_ok (tab := [(37, fe_spec_l01Name k), (38, fe_spec_l00In), (25, fe_spec_l28Find k)]) (l := []) ti_ok ti_ht mix (List.forall_mem_cons.2 ⟨ok_spec_l01Name k, (List.forall_mem_cons.2 ⟨ok_spec_l00In, (List.forall_mem_cons.2 ⟨ok_spec_l28Find k, (List.forall_mem_nil _)⟩)⟩)⟩) (List.forall_mem_nil _) ⟨⟨Try.f26, (codeOf Try.f26), [.tmp 2], (spec_l28Form_O k), by kernel_rfl, by kernel_rfl, by kernel_rfl, by kernel_rfl, rfl, by decide, ⟨by kernel_rfl, ?_, ?_⟩, ?_⟩⟩
  · refine loops_of (n := 2) (by kernel_rfl) fun i hi => ?_
    match i, hi with
    | 0, _ => exact loop_of (by kernel_rfl) (spec_l28Form_l0_ok k)
    | 1, _ => exact loop_of (by kernel_rfl) (spec_l28Form_l1_ok k)
    | n + 2, hi => omega
  · exact no_cuts (by kernel_rfl)
  · rintro list0
    kernel_rfl
/- 27 loop.example/g01005/spec.l28Order -/
def spec_l28Order_l2 (k : Nat) : Nat → (List (List UInt8 × List (List UInt8) × Int × Int)) → Int → Int → Bool → Int → (List Int) → (List Bool) → ((List (List UInt8 × List (List UInt8) × Int × Int)) → Int → Int → Bool → (List Int) → (List Bool) → Option (List Int)) → Option (List Int)
  | 0, _, _, _, _, _, _, _, _ => none
  | n + 1, list0, next5, i6, ready7, k8, q_6, q_7, e_4 => (if 0 ≤ i6 then (list0[i6.toNat]?).bind fun y_8 => (if (decide (k8 < (List.length y_8.2.1 : Int))) = true then (if ready7 = true then (if 0 ≤ i6 then (list0[i6.toNat]?).bind fun y_9 => (if 0 ≤ k8 then (y_9.2.1[k8.toNat]?).bind fun y_10 => (spec_l28Find k list0 y_10).bind fun r_11 => (if 0 ≤ r_11 ∧ r_11.toNat < List.length q_7 then (q_7[r_11.toNat]?).bind fun y_12 => spec_l28Order_l2 k n list0 next5 i6 y_12 (w_i64 (k8 + 1)) q_6 q_7 e_4 else none) else none) else none) else e_4 list0 next5 i6 ready7 q_6 q_7) else e_4 list0 next5 i6 ready7 q_6 q_7) else none)
def spec_l28Order_l1 (k : Nat) : Nat → (List (List UInt8 × List (List UInt8) × Int × Int)) → Int → Int → (List Int) → (List Bool) → ((List (List UInt8 × List (List UInt8) × Int × Int)) → Int → (List Int) → (List Bool) → Option (List Int)) → Option (List Int)
  | 0, _, _, _, _, _, _ => none
  | n + 1, list0, next5, i6, q_3, q_4, e_2 => (if (decide (i6 < (List.length list0 : Int))) = true then (if (decide (next5 < 0)) = true then (if 0 ≤ i6 ∧ i6.toNat < List.length q_4 then (q_4[i6.toNat]?).bind fun y_5 => spec_l28Order_l2 k k list0 next5 i6 (!y_5) 0 q_3 q_4 (fun list_6 next_7 i_8 ready_9 q_10 q_11 => (if ready_9 = true then spec_l28Order_l1 k n list_6 i_8 (w_i64 (i_8 + 1)) q_10 q_11 e_2 else spec_l28Order_l1 k n list_6 next_7 (w_i64 (i_8 + 1)) q_10 q_11 e_2)) else none) else e_2 list0 next5 q_3 q_4) else e_2 list0 next5 q_3 q_4)
def spec_l28Order_l0 (k : Nat) : Nat → (List (List UInt8 × List (List UInt8) × Int × Int)) → (List Int) → (List Bool) → ((List Int) → Option (List Int)) → Option (List Int)
  | 0, _, _, _, _ => none
  | n + 1, list0, q_1, q_2, e_0 => (if (decide ((List.length q_1 : Int) < (List.length list0 : Int))) = true then spec_l28Order_l1 k k list0 (-1) 0 q_1 q_2 (fun list_3 next_4 q_5 q_6 => (if (decide (next_4 < 0)) = true then some q_5 else (if 0 ≤ next_4 ∧ next_4.toNat < List.length q_6 then (q_6[next_4.toNat]?).bind fun y_7 => (q_6[next_4.toNat]?).bind fun y_8 => (if (q_5.length + [next_4].length) * 8 ≤ LIM then spec_l28Order_l0 k n list_3 (q_5 ++ [next_4]) (q_6.set next_4.toNat true) e_0 else none) else none))) else e_0 q_1)
def spec_l28Order (k : Nat) (list0 : List (List UInt8 × List (List UInt8) × Int × Int)) : Option (List Int) := (if 0 ≤ (List.length list0 : Int) ∧ (List.length list0 : Int) ≤ (List.length list0 : Int) ∧ (List.length list0 : Int) * 1 ≤ LIM then spec_l28Order_l0 k k list0 [] (List.replicate (List.length list0) false) (fun q_9 => some q_9) else none)
def spec_l28Order_l2_h : Head := ⟨[(0, (.val (.sl 37 (.st (.pr .str (.pr (.sl 9 .str) (.pr (.int .i64) (.int .i64)))))))), (3, (.ref 64000000 [])), (4, (.ref 64000001 [])), (5, (.val (.int .i64))), (6, (.val (.int .i64))), (7, (.val .bool)), (8, (.val (.int .i64)))], [(64000000, 3, (.int .i64), false), (64000001, 4, .bool, false)], []⟩
def spec_l28Order_l2_x4 : Head := ⟨[(0, (.val (.sl 37 (.st (.pr .str (.pr (.sl 9 .str) (.pr (.int .i64) (.int .i64)))))))), (3, (.ref 64000000 [])), (4, (.ref 64000001 [])), (5, (.val (.int .i64))), (6, (.val (.int .i64))), (7, (.val .bool))], [(64000000, 3, (.int .i64), false), (64000001, 4, .bool, false)], []⟩
def spec_l28Order_l2_F (k n : Nat) (x : spec_l28Order_l2_h.T) (kx : Nat → St → Option (List Int)) : Option (List Int) := spec_l28Order_l2 k n x.1.1 x.1.2.2.2.1 x.1.2.2.2.2.1 x.1.2.2.2.2.2.1 x.1.2.2.2.2.2.2.1 x.2.1.1 x.2.1.2.1 (fun (list0 : List (List UInt8 × List (List UInt8) × Int × Int)) (next5 : Int) (i6 : Int) (ready7 : Bool) (q_13 : List Int) (q_14 : List Bool) => kx 4 (spec_l28Order_l2_x4.fill ((list0, (), (), next5, i6, ready7, ()), (q_13, q_14, ()), ())))
def spec_l28Order_l1_h : Head := ⟨[(0, (.val (.sl 37 (.st (.pr .str (.pr (.sl 9 .str) (.pr (.int .i64) (.int .i64)))))))), (3, (.ref 64000000 [])), (4, (.ref 64000001 [])), (5, (.val (.int .i64))), (6, (.val (.int .i64)))], [(64000000, 3, (.int .i64), false), (64000001, 4, .bool, false)], []⟩
def spec_l28Order_l1_x2 : Head := ⟨[(0, (.val (.sl 37 (.st (.pr .str (.pr (.sl 9 .str) (.pr (.int .i64) (.int .i64)))))))), (3, (.ref 64000000 [])), (4, (.ref 64000001 [])), (5, (.val (.int .i64)))], [(64000000, 3, (.int .i64), false), (64000001, 4, .bool, false)], []⟩
def spec_l28Order_l1_F (k n : Nat) (x : spec_l28Order_l1_h.T) (kx : Nat → St → Option (List Int)) : Option (List Int) := spec_l28Order_l1 k n x.1.1 x.1.2.2.2.1 x.1.2.2.2.2.1 x.2.1.1 x.2.1.2.1 (fun (list0 : List (List UInt8 × List (List UInt8) × Int × Int)) (next5 : Int) (q_19 : List Int) (q_20 : List Bool) => kx 2 (spec_l28Order_l1_x2.fill ((list0, (), (), next5, ()), (q_19, q_20, ()), ())))
def spec_l28Order_l0_h : Head := ⟨[(0, (.val (.sl 37 (.st (.pr .str (.pr (.sl 9 .str) (.pr (.int .i64) (.int .i64)))))))), (3, (.ref 64000000 [])), (4, (.ref 64000001 []))], [(64000000, 3, (.int .i64), false), (64000001, 4, .bool, false)], []⟩
def spec_l28Order_l0_x0 : Head := ⟨[(3, (.ref 64000000 []))], [(64000000, 3, (.int .i64), false)], []⟩
def spec_l28Order_l0_F (k n : Nat) (x : spec_l28Order_l0_h.T) (kx : Nat → St → Option (List Int)) : Option (List Int) := spec_l28Order_l0 k n x.1.1 x.2.1.1 x.2.1.2.1 (fun (q_18 : List Int) => kx 0 (spec_l28Order_l0_x0.fill (((), ()), (q_18, ()), ())))
def spec_l28Order_O (k : Nat) : Oracles (List Int) := ⟨fun n => bif Nat.beq n 10 then some (fun σ kx => spec_l28Order_l2_h.get σ fun x => spec_l28Order_l2_F k k x kx) else bif Nat.beq n 6 then some (fun σ kx => spec_l28Order_l1_h.get σ fun x => spec_l28Order_l1_F k k x kx) else bif Nat.beq n 3 then some (fun σ kx => spec_l28Order_l0_h.get σ fun x => spec_l28Order_l0_F k k x kx) else none, fun _ => none⟩
def fe_spec_l28Order (k : Nat) : FE := ⟨(.sl 37 (.st (.pr .str (.pr (.sl 9 .str) (.pr (.int .i64) (.int .i64)))))), 1, (.sl 3 (.int .i64)), fun x => spec_l28Order k x⟩
theorem spec_l28Order_l2_ok (k : Nat) : LoopOK (mkEnv ti [(25, fe_spec_l28Find k)] (lk []) pins0 pinB0) (spec_l28Order_O k) (rdC (mkEnv ti [(25, fe_spec_l28Find k)] (lk []) pins0 pinB0) [.tmp 2] (.sl 3 (.int .i64))) ((loopsOf (codeOf Try.f27)).getD 2 .skip) (fun σ kx => spec_l28Order_l2_h.get σ fun x => spec_l28Order_l2_F k k x kx) := by
  refine ⟨spec_l28Order_l2_h, [(4, spec_l28Order_l2_x4)], fun n x kx => spec_l28Order_l2_F k n x kx, k, by kernel_rfl, by kernel_rfl, fun x kx => by kernel_rfl, ?_, fun σ kx => rfl⟩
  rintro n ⟨⟨list0, ⟨⟩, ⟨⟩, next5, i6, ready7, k8, ⟨⟩⟩, ⟨q_6, q_7, ⟨⟩⟩, ⟨⟩⟩ kx
  kernel_rfl
theorem spec_l28Order_l1_ok (k : Nat) : LoopOK (mkEnv ti [(25, fe_spec_l28Find k)] (lk []) pins0 pinB0) (spec_l28Order_O k) (rdC (mkEnv ti [(25, fe_spec_l28Find k)] (lk []) pins0 pinB0) [.tmp 2] (.sl 3 (.int .i64))) ((loopsOf (codeOf Try.f27)).getD 1 .skip) (fun σ kx => spec_l28Order_l1_h.get σ fun x => spec_l28Order_l1_F k k x kx) := by
  refine ⟨spec_l28Order_l1_h, [(2, spec_l28Order_l1_x2)], fun n x kx => spec_l28Order_l1_F k n x kx, k, by kernel_rfl, by kernel_rfl, fun x kx => by kernel_rfl, ?_, fun σ kx => rfl⟩
  rintro n ⟨⟨list0, ⟨⟩, ⟨⟩, next5, i6, ⟨⟩⟩, ⟨q_3, q_4, ⟨⟩⟩, ⟨⟩⟩ kx
  kernel_rfl
theorem spec_l28Order_l0_ok (k : Nat) : LoopOK (mkEnv ti [(25, fe_spec_l28Find k)] (lk []) pins0 pinB0) (spec_l28Order_O k) (rdC (mkEnv ti [(25, fe_spec_l28Find k)] (lk []) pins0 pinB0) [.tmp 2] (.sl 3 (.int .i64))) ((loopsOf (codeOf Try.f27)).getD 0 .skip) (fun σ kx => spec_l28Order_l0_h.get σ fun x => spec_l28Order_l0_F k k x kx) := by
  refine ⟨spec_l28Order_l0_h, [(0, spec_l28Order_l0_x0)], fun n x kx => spec_l28Order_l0_F k n x kx, k, by kernel_rfl, by kernel_rfl, fun x kx => by kernel_rfl, ?_, fun σ kx => rfl⟩
  rintro n ⟨⟨list0, ⟨⟩, ⟨⟩, ⟨⟩⟩, ⟨q_1, q_2, ⟨⟩⟩, ⟨⟩⟩ kx
  kernel_rfl
theorem ok_spec_l28Order (k : Nat) : FnOK Try.prog 27 (fe_spec_l28Order k) := by
  refine closed_ok (tab := [(25, fe_spec_l28Find k)]) (l := []) ti_ok ti_ht mix (List.forall_mem_cons.2 ⟨ok_spec_l28Find k, (List.forall_mem_nil _)⟩) (List.forall_mem_nil _) ⟨⟨Try.f27, (codeOf Try.f27), [.tmp 2], (spec_l28Order_O k), by kernel_rfl, by kernel_rfl, by kernel_rfl, by kernel_rfl, rfl, by decide, ⟨by kernel_rfl, ?_, ?_⟩, ?_⟩⟩
  · refine loops_of (n := 3) (by kernel_rfl) fun i hi => ?_
    match i, hi with
    | 0, _ => exact loop_of (by kernel_rfl) (spec_l28Order_l0_ok k)
    | 1, _ => exact loop_of (by kernel_rfl) (spec_l28Order_l1_ok k)
    | 2, _ => exact loop_of (by kernel_rfl) (spec_l28Order_l2_ok k)
    | n + 3, hi => omega
  · exact no_cuts (by kernel_rfl)
  · rintro list0
    kernel_rfl
/- 14 loop.example/g01005/spec.l28Ok -/
def spec_l28Ok (k : Nat) (list0 : List (List UInt8 × List (List UInt8) × Int × Int)) : Option Bool := (spec_l28Form k list0).bind fun r_1 => (if r_1 = true then (spec_l28Order k list0).bind fun r_2 => some (decide ((List.length r_2 : Int) = (List.length list0 : Int))) else some false)
def fe_spec_l28Ok (k : Nat) : FE := ⟨(.sl 37 (.st (.pr .str (.pr (.sl 9 .str) (.pr (.int .i64) (.int .i64)))))), 1, .bool, fun x => spec_l28Ok k x⟩
theorem ok_spec_l28Ok (k : Nat) : FnOK Try.prog 14 (fe_spec_l28Ok k) := by
  refine closed_ok (tab := [(26, fe_spec_l28Form k), (27, fe_spec_l28Order k)]) (l := []) ti_ok ti_ht mix (List.forall_mem_cons.2 ⟨ok_spec_l28Form k, (List.forall_mem_cons.2 ⟨ok_spec_l28Order k, (List.forall_mem_nil _)⟩)⟩) (List.forall_mem_nil _) ⟨⟨Try.f14, (codeOf Try.f14), [.tmp 2], (LOn Bool), by kernel_rfl, by kernel_rfl, by kernel_rfl, by kernel_rfl, rfl, by decide, ⟨by kernel_rfl, ?_, ?_⟩, ?_⟩⟩
  · exact no_loops (by kernel_rfl)
  · exact no_cuts (by kernel_rfl)
  · rintro list0
    kernel_rfl
/- 12 loop.example/g01005/spec.l28Ask -/
def spec_l28Ask (k : Nat) (list0 : List (List UInt8 × List (List UInt8) × Int × Int)) (name1 : List UInt8) : Option Int := (spec_l28Ok k list0).bind fun r_1 => (if (!r_1) = true then some 1 else (spec_l28Find k list0 name1).bind fun r_2 => (if (decide (r_2 < 0)) = true then some 3 else some 0))
def fe_spec_l28Ask (k : Nat) : FE := ⟨(.pr (.sl 37 (.st (.pr .str (.pr (.sl 9 .str) (.pr (.int .i64) (.int .i64)))))) .str), 1, (.int .i64), fun x => spec_l28Ask k x.1 x.2⟩
theorem ok_spec_l28Ask (k : Nat) : FnOK Try.prog 12 (fe_spec_l28Ask k) := by
  refine closed_ok (tab := [(14, fe_spec_l28Ok k), (25, fe_spec_l28Find k)]) (l := []) ti_ok ti_ht mix (List.forall_mem_cons.2 ⟨ok_spec_l28Ok k, (List.forall_mem_cons.2 ⟨ok_spec_l28Find k, (List.forall_mem_nil _)⟩)⟩) (List.forall_mem_nil _) ⟨⟨Try.f12, (codeOf Try.f12), [.tmp 4], (LOn Int), by kernel_rfl, by kernel_rfl, by kernel_rfl, by kernel_rfl, rfl, by decide, ⟨by kernel_rfl, ?_, ?_⟩, ?_⟩⟩
  · exact no_loops (by kernel_rfl)
  · exact no_cuts (by kernel_rfl)
  · rintro ⟨list0, name1⟩
    kernel_rfl
end
end Go.Proofs.Ytgcndhlbhlnplaa.Ev
