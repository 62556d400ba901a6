/- Functions of the program, as plain ones. No conditions. -/
import Derived.Test.YtnlpjpfpjnmjmaaG0
import Derived.KernelRfl
set_option linter.unusedVariables false
set_option maxRecDepth 100000
namespace Go.Proofs.Ytnlpjpfpjnmjmaa.Ev
open Go.RowKit
noncomputable section
/- 25 loop.example/g01005/laws.szInt64S -/
def laws_szInt64S (a0 : List Int) (left1 : Int) : Option Int := (if (decide ((w_i64 (left1 - (List.length a0 : Int))) < 0)) = true then some (-1) else some (w_i64 (left1 - (List.length a0 : Int))))
def fe_laws_szInt64S : FE := ⟨(.pr (.sl 2 (.int .i64)) (.int .i64)), 1, (.int .i64), fun x => laws_szInt64S x.1 x.2⟩
theorem ok_laws_szInt64S : FnOK Try.prog 25 (fe_laws_szInt64S) := by
  refine closed_ok (tab := []) (l := []) ti_ok ti_ht mix (List.forall_mem_nil _) (List.forall_mem_nil _) ⟨⟨Try.f25, (codeOf Try.f25), [.tmp 4], (LOn Int), by kernel_rfl, by kernel_rfl, by kernel_rfl, by kernel_rfl, rfl, by decide, ⟨by kernel_rfl, ?_, ?_⟩, ?_⟩⟩
  · exact no_loops (by kernel_rfl)
  · exact no_cuts (by kernel_rfl)
  · rintro ⟨a0, left1⟩
    kernel_rfl
/- 13 loop.example/g01005/laws.szInt64SS -/
def laws_szInt64SS_l0 (k : Nat) : Nat → (List (List Int)) → Int → Int → (Int → Option Int) → Option Int
  | 0, _, _, _, _ => none
  | n + 1, a0, left1, i5, e_0 => (if (decide (i5 < (List.length a0 : Int))) = true then (if 0 ≤ i5 then (a0[i5.toNat]?).bind fun y_1 => (laws_szInt64S y_1 left1).bind fun r_2 => (if (decide (r_2 < 0)) = true then some (-1) else laws_szInt64SS_l0 k n a0 r_2 (w_i64 (i5 + 1)) e_0) else none) else e_0 left1)
def laws_szInt64SS (k : Nat) (a0 : List (List Int)) (left1 : Int) : Option Int := (if (decide ((w_i64 (left1 - (List.length a0 : Int))) < 0)) = true then some (-1) else laws_szInt64SS_l0 k k a0 (w_i64 (left1 - (List.length a0 : Int))) 0 (fun left_3 => some left_3))
def laws_szInt64SS_l0_h : Head := ⟨[(0, (.val (.sl 43 (.sl 2 (.int .i64))))), (1, (.val (.int .i64))), (5, (.val (.int .i64)))], [], []⟩
def laws_szInt64SS_l0_x0 : Head := ⟨[(1, (.val (.int .i64)))], [], []⟩
def laws_szInt64SS_l0_F (k n : Nat) (x : laws_szInt64SS_l0_h.T) (kx : Nat → St → Option Int) : Option Int := laws_szInt64SS_l0 k n x.1.1 x.1.2.1 x.1.2.2.1 (fun (left1 : Int) => kx 0 (laws_szInt64SS_l0_x0.fill ((left1, ()), (), ())))
def laws_szInt64SS_O (k : Nat) : Oracles Int := ⟨fun n => bif Nat.beq n 5 then some (fun σ kx => laws_szInt64SS_l0_h.get σ fun x => laws_szInt64SS_l0_F k k x kx) else none, fun _ => none⟩
def fe_laws_szInt64SS (k : Nat) : FE := ⟨(.pr (.sl 43 (.sl 2 (.int .i64))) (.int .i64)), 1, (.int .i64), fun x => laws_szInt64SS k x.1 x.2⟩
theorem laws_szInt64SS_l0_ok (k : Nat) : LoopOK (mkEnv ti [(25, fe_laws_szInt64S)] (lk []) pins0 pinB0) (laws_szInt64SS_O k) (rdC (mkEnv ti [(25, fe_laws_szInt64S)] (lk []) pins0 pinB0) [.tmp 4] (.int .i64)) ((loopsOf (codeOf Try.f13)).getD 0 .skip) (fun σ kx => laws_szInt64SS_l0_h.get σ fun x => laws_szInt64SS_l0_F k k x kx) := by
  refine ⟨laws_szInt64SS_l0_h, [(0, laws_szInt64SS_l0_x0)], fun n x kx => laws_szInt64SS_l0_F k n x kx, k, by kernel_rfl, by kernel_rfl, fun x kx => by kernel_rfl, ?_, fun σ kx => rfl⟩
  rintro n ⟨⟨a0, left1, i5, ⟨⟩⟩, ⟨⟩, ⟨⟩⟩ kx
  kernel_rfl
theorem ok_laws_szInt64SS (k : Nat) : FnOK Try.prog 13 (fe_laws_szInt64SS k) := by
  refine closed_ok (tab := [(25, fe_laws_szInt64S)]) (l := []) ti_ok ti_ht mix (List.forall_mem_cons.2 ⟨ok_laws_szInt64S, (List.forall_mem_nil _)⟩) (List.forall_mem_nil _) ⟨⟨Try.f13, (codeOf Try.f13), [.tmp 4], (laws_szInt64SS_O k), by kernel_rfl, by kernel_rfl, by kernel_rfl, by kernel_rfl, rfl, by decide, ⟨by kernel_rfl, ?_, ?_⟩, ?_⟩⟩
  · refine loops_of (n := 1) (by kernel_rfl) fun i hi => ?_
    match i, hi with
    | 0, _ => exact loop_of (by kernel_rfl) (laws_szInt64SS_l0_ok k)
    | n + 1, hi => omega
  · exact no_cuts (by kernel_rfl)
  · rintro ⟨a0, left1⟩
    kernel_rfl
/- 4 loop.example/g01005/laws.szComplex -/
def laws_szComplex (k : Nat) (a0 : List (List Int)) (left1 : Int) : Option Int := (laws_szInt64SS k a0 left1).bind fun r_1 => (if (decide (r_1 < 0)) = true then some (-1) else some r_1)
def fe_laws_szComplex (k : Nat) : FE := ⟨(.pr (.st (.sl 43 (.sl 2 (.int .i64)))) (.int .i64)), 1, (.int .i64), fun x => laws_szComplex k x.1 x.2⟩
theorem ok_laws_szComplex (k : Nat) : FnOK Try.prog 4 (fe_laws_szComplex k) := by
  refine closed_ok (tab := [(13, fe_laws_szInt64SS k)]) (l := []) ti_ok ti_ht mix (List.forall_mem_cons.2 ⟨ok_laws_szInt64SS k, (List.forall_mem_nil _)⟩) (List.forall_mem_nil _) ⟨⟨Try.f4, (codeOf Try.f4), [.tmp 4], (LOn Int), by kernel_rfl, by kernel_rfl, by kernel_rfl, by kernel_rfl, rfl, by decide, ⟨by kernel_rfl, ?_, ?_⟩, ?_⟩⟩
  · exact no_loops (by kernel_rfl)
  · exact no_cuts (by kernel_rfl)
  · rintro ⟨a0, left1⟩
    kernel_rfl
/- 33 loop.example/g01005/laws.toInt64S -/
def laws_toInt64S_l0 (k : Nat) : Nat → (List Int) → Int → (List Int) → ((List Int) → Option (List Int)) → Option (List Int)
  | 0, _, _, _, _ => none
  | n + 1, a0, i4, q_1, e_0 => (if (decide (i4 < (List.length a0 : Int))) = true then (if 0 ≤ i4 then (a0[i4.toNat]?).bind fun y_2 => (if 0 ≤ i4 ∧ i4.toNat < List.length q_1 then (q_1[i4.toNat]?).bind fun y_3 => (q_1[i4.toNat]?).bind fun y_4 => laws_toInt64S_l0 k n a0 (w_i64 (i4 + 1)) (q_1.set i4.toNat y_2) e_0 else none) else none) else e_0 q_1)
def laws_toInt64S (k : Nat) (a0 : List Int) : Option (List Int) := (if 0 ≤ (List.length a0 : Int) ∧ (List.length a0 : Int) ≤ (List.length a0 : Int) ∧ (List.length a0 : Int) * 8 ≤ LIM then laws_toInt64S_l0 k k a0 0 (List.replicate (List.length a0) 0) (fun q_5 => some q_5) else none)
def laws_toInt64S_l0_h : Head := ⟨[(0, (.val (.sl 2 (.int .i64)))), (3, (.ref 64000000 [])), (4, (.val (.int .i64)))], [(64000000, 2, (.int .i64), false)], []⟩
def laws_toInt64S_l0_x0 : Head := ⟨[(3, (.ref 64000000 []))], [(64000000, 2, (.int .i64), false)], []⟩
def laws_toInt64S_l0_F (k n : Nat) (x : laws_toInt64S_l0_h.T) (kx : Nat → St → Option (List Int)) : Option (List Int) := laws_toInt64S_l0 k n x.1.1 x.1.2.2.1 x.2.1.1 (fun (q_5 : List Int) => kx 0 (laws_toInt64S_l0_x0.fill (((), ()), (q_5, ()), ())))
def laws_toInt64S_O (k : Nat) : Oracles (List Int) := ⟨fun n => bif Nat.beq n 3 then some (fun σ kx => laws_toInt64S_l0_h.get σ fun x => laws_toInt64S_l0_F k k x kx) else none, fun _ => none⟩
def fe_laws_toInt64S (k : Nat) : FE := ⟨(.sl 2 (.int .i64)), 1, (.sl 2 (.int .i64)), fun x => laws_toInt64S k x⟩
theorem laws_toInt64S_l0_ok (k : Nat) : LoopOK (mkEnv ti [] (lk []) pins0 pinB0) (laws_toInt64S_O k) (rdC (mkEnv ti [] (lk []) pins0 pinB0) [.tmp 2] (.sl 2 (.int .i64))) ((loopsOf (codeOf Try.f33)).getD 0 .skip) (fun σ kx => laws_toInt64S_l0_h.get σ fun x => laws_toInt64S_l0_F k k x kx) := by
  refine ⟨laws_toInt64S_l0_h, [(0, laws_toInt64S_l0_x0)], fun n x kx => laws_toInt64S_l0_F k n x kx, k, by kernel_rfl, by kernel_rfl, fun x kx => by kernel_rfl, ?_, fun σ kx => rfl⟩
  rintro n ⟨⟨a0, ⟨⟩, i4, ⟨⟩⟩, ⟨q_1, ⟨⟩⟩, ⟨⟩⟩ kx
  kernel_rfl
theorem ok_laws_toInt64S (k : Nat) : FnOK Try.prog 33 (fe_laws_toInt64S k) := by
  refine closed_ok (tab := []) (l := []) ti_ok ti_ht mix (List.forall_mem_nil _) (List.forall_mem_nil _) ⟨⟨Try.f33, (codeOf Try.f33), [.tmp 2], (laws_toInt64S_O k), by kernel_rfl, by kernel_rfl, by kernel_rfl, by kernel_rfl, rfl, by decide, ⟨by kernel_rfl, ?_, ?_⟩, ?_⟩⟩
  · refine loops_of (n := 1) (by kernel_rfl) fun i hi => ?_
    match i, hi with
    | 0, _ => exact loop_of (by kernel_rfl) (laws_toInt64S_l0_ok k)
    | n + 1, hi => omega
  · exact no_cuts (by kernel_rfl)
  · rintro a0
    kernel_rfl
/- 17 loop.example/g01005/laws.toInt64SS -/
def laws_toInt64SS_l0 (k : Nat) : Nat → (List (List Int)) → Int → (List (List Int)) → ((List (List Int)) → Option (List (List Int))) → Option (List (List Int))
  | 0, _, _, _, _ => none
  | n + 1, a0, i4, q_1, e_0 => (if (decide (i4 < (List.length a0 : Int))) = true then (if 0 ≤ i4 then (a0[i4.toNat]?).bind fun y_2 => (laws_toInt64S k y_2).bind fun r_3 => (if 0 ≤ i4 ∧ i4.toNat < List.length q_1 then (q_1[i4.toNat]?).bind fun y_4 => (q_1[i4.toNat]?).bind fun y_5 => laws_toInt64SS_l0 k n a0 (w_i64 (i4 + 1)) (q_1.set i4.toNat r_3) e_0 else none) else none) else e_0 q_1)
def laws_toInt64SS (k : Nat) (a0 : List (List Int)) : Option (List (List Int)) := (if 0 ≤ (List.length a0 : Int) ∧ (List.length a0 : Int) ≤ (List.length a0 : Int) ∧ (List.length a0 : Int) * 24 ≤ LIM then laws_toInt64SS_l0 k k a0 0 (List.replicate (List.length a0) ([] : List Int)) (fun q_6 => some q_6) else none)
def laws_toInt64SS_l0_h : Head := ⟨[(0, (.val (.sl 43 (.sl 2 (.int .i64))))), (3, (.ref 64000000 [])), (4, (.val (.int .i64)))], [(64000000, 43, (.sl 2 (.int .i64)), false)], []⟩
def laws_toInt64SS_l0_x0 : Head := ⟨[(3, (.ref 64000000 []))], [(64000000, 43, (.sl 2 (.int .i64)), false)], []⟩
def laws_toInt64SS_l0_F (k n : Nat) (x : laws_toInt64SS_l0_h.T) (kx : Nat → St → Option (List (List Int))) : Option (List (List Int)) := laws_toInt64SS_l0 k n x.1.1 x.1.2.2.1 x.2.1.1 (fun (q_6 : List (List Int)) => kx 0 (laws_toInt64SS_l0_x0.fill (((), ()), (q_6, ()), ())))
def laws_toInt64SS_O (k : Nat) : Oracles (List (List Int)) := ⟨fun n => bif Nat.beq n 3 then some (fun σ kx => laws_toInt64SS_l0_h.get σ fun x => laws_toInt64SS_l0_F k k x kx) else none, fun _ => none⟩
def fe_laws_toInt64SS (k : Nat) : FE := ⟨(.sl 43 (.sl 2 (.int .i64))), 1, (.sl 43 (.sl 2 (.int .i64))), fun x => laws_toInt64SS k x⟩
theorem laws_toInt64SS_l0_ok (k : Nat) : LoopOK (mkEnv ti [(33, fe_laws_toInt64S k)] (lk []) pins0 pinB0) (laws_toInt64SS_O k) (rdC (mkEnv ti [(33, fe_laws_toInt64S k)] (lk []) pins0 pinB0) [.tmp 2] (.sl 43 (.sl 2 (.int .i64)))) ((loopsOf (codeOf Try.f17)).getD 0 .skip) (fun σ kx => laws_toInt64SS_l0_h.get σ fun x => laws_toInt64SS_l0_F k k x kx) := by
  refine ⟨laws_toInt64SS_l0_h, [(0, laws_toInt64SS_l0_x0)], fun n x kx => laws_toInt64SS_l0_F k n x kx, k, by kernel_rfl, by kernel_rfl, fun x kx => by kernel_rfl, ?_, fun σ kx => rfl⟩
  rintro n ⟨⟨a0, ⟨⟩, i4, ⟨⟩⟩, ⟨q_1, ⟨⟩⟩, ⟨⟩⟩ kx
  kernel_rfl
theorem ok_laws_toInt64SS (k : Nat) : FnOK Try.prog 17 (fe_laws_toInt64SS k) := by
  refine closed_ok (tab := [(33, fe_laws_toInt64S k)]) (l := []) ti_ok ti_ht mix (List.forall_mem_cons.2 ⟨ok_laws_toInt64S k, (List.forall_mem_nil _)⟩) (List.forall_mem_nil _) ⟨⟨Try.f17, (codeOf Try.f17), [.tmp 2], (laws_toInt64SS_O k), by kernel_rfl, by kernel_rfl, by kernel_rfl, by kernel_rfl, rfl, by decide, ⟨by kernel_rfl, ?_, ?_⟩, ?_⟩⟩
  · refine loops_of (n := 1) (by kernel_rfl) fun i hi => ?_
    match i, hi with
    | 0, _ => exact loop_of (by kernel_rfl) (laws_toInt64SS_l0_ok k)
    | n + 1, hi => omega
  · exact no_cuts (by kernel_rfl)
  · rintro a0
    kernel_rfl
/- 6 loop.example/g01005/laws.toComplex -/
def laws_toComplex (k : Nat) (a0 : List (List Int)) : Option (List (List Int)) := (laws_toInt64SS k a0).bind fun r_1 => some r_1
def fe_laws_toComplex (k : Nat) : FE := ⟨(.st (.sl 43 (.sl 2 (.int .i64)))), 1, (.st (.sl 43 (.sl 2 (.int .i64)))), fun x => laws_toComplex k x⟩
theorem ok_laws_toComplex (k : Nat) : FnOK Try.prog 6 (fe_laws_toComplex k) := by
  refine closed_ok (tab := [(17, fe_laws_toInt64SS k)]) (l := []) ti_ok ti_ht mix (List.forall_mem_cons.2 ⟨ok_laws_toInt64SS k, (List.forall_mem_nil _)⟩) (List.forall_mem_nil _) ⟨⟨Try.f6, (codeOf Try.f6), [.cell 2 29], (LOn (List (List Int))), by kernel_rfl, by kernel_rfl, by kernel_rfl, by kernel_rfl, rfl, by decide, ⟨by kernel_rfl, ?_, ?_⟩, ?_⟩⟩
  · exact no_loops (by kernel_rfl)
  · exact no_cuts (by kernel_rfl)
  · rintro a0
    kernel_rfl
/- 50 loop.example/g01005/spec.l00In -/
def spec_l00In (n0 : Int) (low1 : Int) (high2 : Int) : Option Bool := (if (decide (low1 ≤ n0)) = true then some (decide (n0 ≤ high2)) else some false)
def fe_spec_l00In : FE := ⟨(.pr (.int .i64) (.pr (.int .i64) (.int .i64))), 1, .bool, fun x => spec_l00In x.1 x.2.1 x.2.2⟩
theorem ok_spec_l00In : FnOK Try.prog 50 (fe_spec_l00In) := by
  refine closed_ok (tab := []) (l := []) ti_ok ti_ht mix (List.forall_mem_nil _) (List.forall_mem_nil _) ⟨⟨Try.f50, (codeOf Try.f50), [.tmp 6], (LOn Bool), by kernel_rfl, by kernel_rfl, by kernel_rfl, by kernel_rfl, rfl, by decide, ⟨by kernel_rfl, ?_, ?_⟩, ?_⟩⟩
  · exact no_loops (by kernel_rfl)
  · exact no_cuts (by kernel_rfl)
  · rintro ⟨n0, low1, high2⟩
    kernel_rfl
/- 51 loop.example/g01005/spec.l00Rises -/
def spec_l00Rises_l0 (k : Nat) : Nat → (List Int) → Int → Int → Int → (Option Bool) → Option Bool
  | 0, _, _, _, _, _ => none
  | n + 1, list0, low1, high2, i7, e_0 => (if (decide (i7 < (List.length list0 : Int))) = true then (if 0 ≤ i7 then (list0[i7.toNat]?).bind fun y_1 => (spec_l00In y_1 low1 high2).bind fun r_2 => (if (!r_2) = true then some false else (if (decide (0 < i7)) = true then (if 0 ≤ (w_i64 (i7 - 1)) then (list0[(w_i64 (i7 - 1)).toNat]?).bind fun y_3 => (if 0 ≤ i7 then (list0[i7.toNat]?).bind fun y_4 => (if (decide (y_4 ≤ y_3)) = true then some false else spec_l00Rises_l0 k n list0 low1 high2 (w_i64 (i7 + 1)) e_0) else none) else none) else spec_l00Rises_l0 k n list0 low1 high2 (w_i64 (i7 + 1)) e_0)) else none) else e_0)
def spec_l00Rises (k : Nat) (list0 : List Int) (low1 : Int) (high2 : Int) : Option Bool := spec_l00Rises_l0 k k list0 low1 high2 0 (some true)
def spec_l00Rises_l0_h : Head := ⟨[(0, (.val (.sl 2 (.int .i64)))), (1, (.val (.int .i64))), (2, (.val (.int .i64))), (7, (.val (.int .i64)))], [], []⟩
def spec_l00Rises_l0_x0 : Head := ⟨[], [], []⟩
def spec_l00Rises_l0_F (k n : Nat) (x : spec_l00Rises_l0_h.T) (kx : Nat → St → Option Bool) : Option Bool := spec_l00Rises_l0 k n x.1.1 x.1.2.1 x.1.2.2.1 x.1.2.2.2.1 (kx 0 (spec_l00Rises_l0_x0.fill ((), (), ())))
def spec_l00Rises_O (k : Nat) : Oracles Bool := ⟨fun n => bif Nat.beq n 2 then some (fun σ kx => spec_l00Rises_l0_h.get σ fun x => spec_l00Rises_l0_F k k x kx) else none, fun _ => none⟩
def fe_spec_l00Rises (k : Nat) : FE := ⟨(.pr (.sl 2 (.int .i64)) (.pr (.int .i64) (.int .i64))), 1, .bool, fun x => spec_l00Rises k x.1 x.2.1 x.2.2⟩
theorem spec_l00Rises_l0_ok (k : Nat) : LoopOK (mkEnv ti [(50, fe_spec_l00In)] (lk []) pins0 pinB0) (spec_l00Rises_O k) (rdC (mkEnv ti [(50, fe_spec_l00In)] (lk []) pins0 pinB0) [.tmp 6] .bool) ((loopsOf (codeOf Try.f51)).getD 0 .skip) (fun σ kx => spec_l00Rises_l0_h.get σ fun x => spec_l00Rises_l0_F k k x kx) := by
  refine ⟨spec_l00Rises_l0_h, [(0, spec_l00Rises_l0_x0)], fun n x kx => spec_l00Rises_l0_F k n x kx, k, by kernel_rfl, by kernel_rfl, fun x kx => by kernel_rfl, ?_, fun σ kx => rfl⟩
  rintro n ⟨⟨list0, low1, high2, i7, ⟨⟩⟩, ⟨⟩, ⟨⟩⟩ kx
  kernel_rfl
theorem ok_spec_l00Rises (k : Nat) : FnOK Try.prog 51 (fe_spec_l00Rises k) := by
  refine closed_ok (tab := [(50, fe_spec_l00In)]) (l := []) ti_ok ti_ht mix (List.forall_mem_cons.2 ⟨ok_spec_l00In, (List.forall_mem_nil _)⟩) (List.forall_mem_nil _) ⟨⟨Try.f51, (codeOf Try.f51), [.tmp 6], (spec_l00Rises_O k), by kernel_rfl, by kernel_rfl, by kernel_rfl, by kernel_rfl, rfl, by decide, ⟨by kernel_rfl, ?_, ?_⟩, ?_⟩⟩
  · refine loops_of (n := 1) (by kernel_rfl) fun i hi => ?_
    match i, hi with
    | 0, _ => exact loop_of (by kernel_rfl) (spec_l00Rises_l0_ok k)
    | n + 1, hi => omega
  · exact no_cuts (by kernel_rfl)
  · rintro ⟨list0, low1, high2⟩
    kernel_rfl
/- 26 loop.example/g01005/spec.l05Simplex -/
def spec_l05Simplex (k : Nat) (s0 : List Int) : Option Bool := (spec_l00In (List.length s0 : Int) 1 4).bind fun r_1 => (if r_1 = true then (spec_l00Rises k s0 0 9).bind fun r_2 => some r_2 else some false)
def fe_spec_l05Simplex (k : Nat) : FE := ⟨(.sl 2 (.int .i64)), 1, .bool, fun x => spec_l05Simplex k x⟩
theorem ok_spec_l05Simplex (k : Nat) : FnOK Try.prog 26 (fe_spec_l05Simplex k) := by
  refine closed_ok (tab := [(50, fe_spec_l00In), (51, fe_spec_l00Rises k)]) (l := []) ti_ok ti_ht mix (List.forall_mem_cons.2 ⟨ok_spec_l00In, (List.forall_mem_cons.2 ⟨ok_spec_l00Rises k, (List.forall_mem_nil _)⟩)⟩) (List.forall_mem_nil _) ⟨⟨Try.f26, (codeOf Try.f26), [.tmp 2], (LOn Bool), by kernel_rfl, by kernel_rfl, by kernel_rfl, by kernel_rfl, rfl, by decide, ⟨by kernel_rfl, ?_, ?_⟩, ?_⟩⟩
  · exact no_loops (by kernel_rfl)
  · exact no_cuts (by kernel_rfl)
  · rintro s0
    kernel_rfl
/- 27 loop.example/g01005/spec.l05Before -/
def spec_l05Before_l0 (k : Nat) : Nat → (List Int) → (List Int) → Int → (Option Bool) → Option Bool
  | 0, _, _, _, _ => none
  | n + 1, a0, b1, i5, e_0 => (if (decide (i5 < (List.length a0 : Int))) = true then (if 0 ≤ i5 then (a0[i5.toNat]?).bind fun y_1 => (if 0 ≤ i5 then (b1[i5.toNat]?).bind fun y_2 => (if (!(decide (y_1 = y_2))) = true then (if 0 ≤ i5 then (a0[i5.toNat]?).bind fun y_3 => (if 0 ≤ i5 then (b1[i5.toNat]?).bind fun y_4 => some (decide (y_3 < y_4)) else none) else none) else spec_l05Before_l0 k n a0 b1 (w_i64 (i5 + 1)) e_0) else none) else none) else e_0)
def spec_l05Before (k : Nat) (a0 : List Int) (b1 : List Int) : Option Bool := (if (!(decide ((List.length a0 : Int) = (List.length b1 : Int)))) = true then some (decide ((List.length a0 : Int) < (List.length b1 : Int))) else spec_l05Before_l0 k k a0 b1 0 (some false))
def spec_l05Before_l0_h : Head := ⟨[(0, (.val (.sl 2 (.int .i64)))), (1, (.val (.sl 2 (.int .i64)))), (5, (.val (.int .i64)))], [], []⟩
def spec_l05Before_l0_x0 : Head := ⟨[], [], []⟩
def spec_l05Before_l0_F (k n : Nat) (x : spec_l05Before_l0_h.T) (kx : Nat → St → Option Bool) : Option Bool := spec_l05Before_l0 k n x.1.1 x.1.2.1 x.1.2.2.1 (kx 0 (spec_l05Before_l0_x0.fill ((), (), ())))
def spec_l05Before_O (k : Nat) : Oracles Bool := ⟨fun n => bif Nat.beq n 4 then some (fun σ kx => spec_l05Before_l0_h.get σ fun x => spec_l05Before_l0_F k k x kx) else none, fun _ => none⟩
def fe_spec_l05Before (k : Nat) : FE := ⟨(.pr (.sl 2 (.int .i64)) (.sl 2 (.int .i64))), 1, .bool, fun x => spec_l05Before k x.1 x.2⟩
theorem spec_l05Before_l0_ok (k : Nat) : LoopOK (mkEnv ti [] (lk []) pins0 pinB0) (spec_l05Before_O k) (rdC (mkEnv ti [] (lk []) pins0 pinB0) [.tmp 4] .bool) ((loopsOf (codeOf Try.f27)).getD 0 .skip) (fun σ kx => spec_l05Before_l0_h.get σ fun x => spec_l05Before_l0_F k k x kx) := by
  refine ⟨spec_l05Before_l0_h, [(0, spec_l05Before_l0_x0)], fun n x kx => spec_l05Before_l0_F k n x kx, k, by kernel_rfl, by kernel_rfl, fun x kx => by kernel_rfl, ?_, fun σ kx => rfl⟩
  rintro n ⟨⟨a0, b1, i5, ⟨⟩⟩, ⟨⟩, ⟨⟩⟩ kx
  kernel_rfl
theorem ok_spec_l05Before (k : Nat) : FnOK Try.prog 27 (fe_spec_l05Before k) := by
  refine closed_ok (tab := []) (l := []) ti_ok ti_ht mix (List.forall_mem_nil _) (List.forall_mem_nil _) ⟨⟨Try.f27, (codeOf Try.f27), [.tmp 4], (spec_l05Before_O k), by kernel_rfl, by kernel_rfl, by kernel_rfl, by kernel_rfl, rfl, by decide, ⟨by kernel_rfl, ?_, ?_⟩, ?_⟩⟩
  · refine loops_of (n := 1) (by kernel_rfl) fun i hi => ?_
    match i, hi with
    | 0, _ => exact loop_of (by kernel_rfl) (spec_l05Before_l0_ok k)
    | n + 1, hi => omega
  · exact no_cuts (by kernel_rfl)
  · rintro ⟨a0, b1⟩
    kernel_rfl
/- 53 loop.example/g01005/spec.l00Own -/
def spec_l00Own (list0 : List Int) : Option (List Int) := (if (([] : List Unit).length + list0.length) * 8 ≤ LIM then some list0 else none)
def fe_spec_l00Own : FE := ⟨(.sl 2 (.int .i64)), 1, (.sl 2 (.int .i64)), fun x => spec_l00Own x⟩
theorem ok_spec_l00Own : FnOK Try.prog 53 (fe_spec_l00Own) := by
  refine closed_ok (tab := []) (l := []) ti_ok ti_ht mix (List.forall_mem_nil _) (List.forall_mem_nil _) ⟨⟨Try.f53, (codeOf Try.f53), [.tmp 2], (LOn (List Int)), by kernel_rfl, by kernel_rfl, by kernel_rfl, by kernel_rfl, rfl, by decide, ⟨by kernel_rfl, ?_, ?_⟩, ?_⟩⟩
  · exact no_loops (by kernel_rfl)
  · exact no_cuts (by kernel_rfl)
  · rintro list0
    kernel_rfl
/- 29 loop.example/g01005/spec.l05Drop -/
def spec_l05Drop (s0 : List Int) (k1 : Int) : Option (List Int) := (if 0 ≤ (0 : Int) ∧ (0 : Int) ≤ k1 ∧ k1 ≤ s0.length then (spec_l00Own (s0.take k1.toNat)).bind fun r_1 => (if 0 ≤ (w_i64 (k1 + 1)) ∧ (w_i64 (k1 + 1)) ≤ (s0.length : Int) ∧ (s0.length : Int) ≤ s0.length then (if (r_1.length + ((s0.drop ((w_i64 (k1 + 1)).toNat)).take (s0.length - (w_i64 (k1 + 1)).toNat)).length) * 8 ≤ LIM then some (r_1 ++ ((s0.drop ((w_i64 (k1 + 1)).toNat)).take (s0.length - (w_i64 (k1 + 1)).toNat))) else none) else none) else none)
def fe_spec_l05Drop : FE := ⟨(.pr (.sl 2 (.int .i64)) (.int .i64)), 1, (.sl 2 (.int .i64)), fun x => spec_l05Drop x.1 x.2⟩
theorem ok_spec_l05Drop : FnOK Try.prog 29 (fe_spec_l05Drop) := by
  refine closed_ok (tab := [(53, fe_spec_l00Own)]) (l := []) ti_ok ti_ht mix (List.forall_mem_cons.2 ⟨ok_spec_l00Own, (List.forall_mem_nil _)⟩) (List.forall_mem_nil _) ⟨⟨Try.f29, (codeOf Try.f29), [.tmp 4], (LOn (List Int)), by kernel_rfl, by kernel_rfl, by kernel_rfl, by kernel_rfl, rfl, by decide, ⟨by kernel_rfl, ?_, ?_⟩, ?_⟩⟩
  · exact no_loops (by kernel_rfl)
  · exact no_cuts (by kernel_rfl)
  · rintro ⟨s0, k1⟩
    kernel_rfl
/- 52 loop.example/g01005/spec.l00Same -/
def spec_l00Same_l0 (k : Nat) : Nat → (List Int) → (List Int) → Int → (Option Bool) → Option Bool
  | 0, _, _, _, _ => none
  | n + 1, a0, b1, i5, e_0 => (if (decide (i5 < (List.length a0 : Int))) = true then (if 0 ≤ i5 then (a0[i5.toNat]?).bind fun y_1 => (if 0 ≤ i5 then (b1[i5.toNat]?).bind fun y_2 => (if (!(decide (y_1 = y_2))) = true then some false else spec_l00Same_l0 k n a0 b1 (w_i64 (i5 + 1)) e_0) else none) else none) else e_0)
def spec_l00Same (k : Nat) (a0 : List Int) (b1 : List Int) : Option Bool := (if (!(decide ((List.length a0 : Int) = (List.length b1 : Int)))) = true then some false else spec_l00Same_l0 k k a0 b1 0 (some true))
def spec_l00Same_l0_h : Head := ⟨[(0, (.val (.sl 2 (.int .i64)))), (1, (.val (.sl 2 (.int .i64)))), (5, (.val (.int .i64)))], [], []⟩
def spec_l00Same_l0_x0 : Head := ⟨[], [], []⟩
def spec_l00Same_l0_F (k n : Nat) (x : spec_l00Same_l0_h.T) (kx : Nat → St → Option Bool) : Option Bool := spec_l00Same_l0 k n x.1.1 x.1.2.1 x.1.2.2.1 (kx 0 (spec_l00Same_l0_x0.fill ((), (), ())))
def spec_l00Same_O (k : Nat) : Oracles Bool := ⟨fun n => bif Nat.beq n 4 then some (fun σ kx => spec_l00Same_l0_h.get σ fun x => spec_l00Same_l0_F k k x kx) else none, fun _ => none⟩
def fe_spec_l00Same (k : Nat) : FE := ⟨(.pr (.sl 2 (.int .i64)) (.sl 2 (.int .i64))), 1, .bool, fun x => spec_l00Same k x.1 x.2⟩
theorem spec_l00Same_l0_ok (k : Nat) : LoopOK (mkEnv ti [] (lk []) pins0 pinB0) (spec_l00Same_O k) (rdC (mkEnv ti [] (lk []) pins0 pinB0) [.tmp 4] .bool) ((loopsOf (codeOf Try.f52)).getD 0 .skip) (fun σ kx => spec_l00Same_l0_h.get σ fun x => spec_l00Same_l0_F k k x kx) := by
  refine ⟨spec_l00Same_l0_h, [(0, spec_l00Same_l0_x0)], fun n x kx => spec_l00Same_l0_F k n x kx, k, by kernel_rfl, by kernel_rfl, fun x kx => by kernel_rfl, ?_, fun σ kx => rfl⟩
  rintro n ⟨⟨a0, b1, i5, ⟨⟩⟩, ⟨⟩, ⟨⟩⟩ kx
  kernel_rfl
theorem ok_spec_l00Same (k : Nat) : FnOK Try.prog 52 (fe_spec_l00Same k) := by
  refine closed_ok (tab := []) (l := []) ti_ok ti_ht mix (List.forall_mem_nil _) (List.forall_mem_nil _) ⟨⟨Try.f52, (codeOf Try.f52), [.tmp 4], (spec_l00Same_O k), by kernel_rfl, by kernel_rfl, by kernel_rfl, by kernel_rfl, rfl, by decide, ⟨by kernel_rfl, ?_, ?_⟩, ?_⟩⟩
  · refine loops_of (n := 1) (by kernel_rfl) fun i hi => ?_
    match i, hi with
    | 0, _ => exact loop_of (by kernel_rfl) (spec_l00Same_l0_ok k)
    | n + 1, hi => omega
  · exact no_cuts (by kernel_rfl)
  · rintro ⟨a0, b1⟩
    kernel_rfl
/- 28 loop.example/g01005/spec.l05Find -/
def spec_l05Find_l0 (k : Nat) : Nat → (List (List Int)) → (List Int) → Int → (Option Int) → Option Int
  | 0, _, _, _, _ => none
  | n + 1, c0, s1, i5, e_0 => (if (decide (i5 < (List.length c0 : Int))) = true then (if 0 ≤ i5 then (c0[i5.toNat]?).bind fun y_1 => (spec_l00Same k y_1 s1).bind fun r_2 => (if r_2 = true then some i5 else spec_l05Find_l0 k n c0 s1 (w_i64 (i5 + 1)) e_0) else none) else e_0)
def spec_l05Find (k : Nat) (c0 : List (List Int)) (s1 : List Int) : Option Int := spec_l05Find_l0 k k c0 s1 0 (some (-1))
def spec_l05Find_l0_h : Head := ⟨[(0, (.val (.ptr (.st (.sl 43 (.sl 2 (.int .i64))))))), (1, (.val (.sl 2 (.int .i64)))), (5, (.val (.int .i64)))], [], []⟩
def spec_l05Find_l0_x0 : Head := ⟨[], [], []⟩
def spec_l05Find_l0_F (k n : Nat) (x : spec_l05Find_l0_h.T) (kx : Nat → St → Option Int) : Option Int := spec_l05Find_l0 k n x.1.1 x.1.2.1 x.1.2.2.1 (kx 0 (spec_l05Find_l0_x0.fill ((), (), ())))
def spec_l05Find_O (k : Nat) : Oracles Int := ⟨fun n => bif Nat.beq n 2 then some (fun σ kx => spec_l05Find_l0_h.get σ fun x => spec_l05Find_l0_F k k x kx) else none, fun _ => none⟩
def fe_spec_l05Find (k : Nat) : FE := ⟨(.pr (.ptr (.st (.sl 43 (.sl 2 (.int .i64))))) (.sl 2 (.int .i64))), 1, (.int .i64), fun x => spec_l05Find k x.1 x.2⟩
theorem spec_l05Find_l0_ok (k : Nat) : LoopOK (mkEnv ti [(52, fe_spec_l00Same k)] (lk []) pins0 pinB0) (spec_l05Find_O k) (rdC (mkEnv ti [(52, fe_spec_l00Same k)] (lk []) pins0 pinB0) [.tmp 4] (.int .i64)) ((loopsOf (codeOf Try.f28)).getD 0 .skip) (fun σ kx => spec_l05Find_l0_h.get σ fun x => spec_l05Find_l0_F k k x kx) := by
  refine ⟨spec_l05Find_l0_h, [(0, spec_l05Find_l0_x0)], fun n x kx => spec_l05Find_l0_F k n x kx, k, by kernel_rfl, by kernel_rfl, fun x kx => by kernel_rfl, ?_, fun σ kx => rfl⟩
  rintro n ⟨⟨c0, s1, i5, ⟨⟩⟩, ⟨⟩, ⟨⟩⟩ kx
  kernel_rfl
theorem ok_spec_l05Find (k : Nat) : FnOK Try.prog 28 (fe_spec_l05Find k) := by
  refine closed_ok (tab := [(52, fe_spec_l00Same k)]) (l := []) ti_ok ti_ht mix (List.forall_mem_cons.2 ⟨ok_spec_l00Same k, (List.forall_mem_nil _)⟩) (List.forall_mem_nil _) ⟨⟨Try.f28, (codeOf Try.f28), [.tmp 4], (spec_l05Find_O k), by kernel_rfl, by kernel_rfl, by kernel_rfl, by kernel_rfl, rfl, by decide, ⟨by kernel_rfl, ?_, ?_⟩, ?_⟩⟩
  · refine loops_of (n := 1) (by kernel_rfl) fun i hi => ?_
    match i, hi with
    | 0, _ => exact loop_of (by kernel_rfl) (spec_l05Find_l0_ok k)
    | n + 1, hi => omega
  · exact no_cuts (by kernel_rfl)
  · rintro ⟨c0, s1⟩
    kernel_rfl
/- 14 loop.example/g01005/spec.l05Ok -/
def spec_l05Ok_l1 (k : Nat) : Nat → (List (List Int)) → Int → (List Int) → Int → ((List (List Int)) → Int → Option Bool) → Option Bool
  | 0, _, _, _, _, _ => none
  | n + 1, c0, i3, s4, k5, e_2 => (if (decide (k5 < (List.length s4 : Int))) = true then (if (decide (1 < (List.length s4 : Int))) = true then (spec_l05Drop s4 k5).bind fun r_5 => (spec_l05Find k c0 r_5).bind fun r_6 => (if (decide (r_6 < 0)) = true then some false else spec_l05Ok_l1 k n c0 i3 s4 (w_i64 (k5 + 1)) e_2) else e_2 c0 i3) else e_2 c0 i3)
def spec_l05Ok_l0 (k : Nat) : Nat → (List (List Int)) → Int → (Option Bool) → Option Bool
  | 0, _, _, _ => none
  | n + 1, c0, i3, e_0 => (if (decide (i3 < (List.length c0 : Int))) = true then (if 0 ≤ i3 then (c0[i3.toNat]?).bind fun y_1 => (spec_l05Simplex k y_1).bind fun r_2 => (if (!r_2) = true then some false else (if (decide (0 < i3)) = true then (if 0 ≤ (w_i64 (i3 - 1)) then (c0[(w_i64 (i3 - 1)).toNat]?).bind fun y_3 => (spec_l05Before k y_3 y_1).bind fun r_4 => (if (!r_4) = true then some false else spec_l05Ok_l1 k k c0 i3 y_1 0 (fun c_5 i_6 => spec_l05Ok_l0 k n c_5 (w_i64 (i_6 + 1)) e_0)) else none) else spec_l05Ok_l1 k k c0 i3 y_1 0 (fun c_7 i_8 => spec_l05Ok_l0 k n c_7 (w_i64 (i_8 + 1)) e_0))) else none) else e_0)
def spec_l05Ok (k : Nat) (c0 : List (List Int)) : Option Bool := (if (decide (48 < (List.length c0 : Int))) = true then some false else spec_l05Ok_l0 k k c0 0 (some true))
def spec_l05Ok_l1_h : Head := ⟨[(0, (.val (.ptr (.st (.sl 43 (.sl 2 (.int .i64))))))), (3, (.val (.int .i64))), (4, (.val (.sl 2 (.int .i64)))), (5, (.val (.int .i64)))], [], []⟩
def spec_l05Ok_l1_x2 : Head := ⟨[(0, (.val (.ptr (.st (.sl 43 (.sl 2 (.int .i64))))))), (3, (.val (.int .i64)))], [], []⟩
def spec_l05Ok_l1_F (k n : Nat) (x : spec_l05Ok_l1_h.T) (kx : Nat → St → Option Bool) : Option Bool := spec_l05Ok_l1 k n x.1.1 x.1.2.1 x.1.2.2.1 x.1.2.2.2.1 (fun (c0 : List (List Int)) (i3 : Int) => kx 2 (spec_l05Ok_l1_x2.fill ((c0, i3, ()), (), ())))
def spec_l05Ok_l0_h : Head := ⟨[(0, (.val (.ptr (.st (.sl 43 (.sl 2 (.int .i64))))))), (3, (.val (.int .i64)))], [], []⟩
def spec_l05Ok_l0_x0 : Head := ⟨[], [], []⟩
def spec_l05Ok_l0_F (k n : Nat) (x : spec_l05Ok_l0_h.T) (kx : Nat → St → Option Bool) : Option Bool := spec_l05Ok_l0 k n x.1.1 x.1.2.1 (kx 0 (spec_l05Ok_l0_x0.fill ((), (), ())))
def spec_l05Ok_O (k : Nat) : Oracles Bool := ⟨fun n => bif Nat.beq n 10 then some (fun σ kx => spec_l05Ok_l1_h.get σ fun x => spec_l05Ok_l1_F k k x kx) else bif Nat.beq n 4 then some (fun σ kx => spec_l05Ok_l0_h.get σ fun x => spec_l05Ok_l0_F k k x kx) else none, fun _ => none⟩
def fe_spec_l05Ok (k : Nat) : FE := ⟨(.ptr (.st (.sl 43 (.sl 2 (.int .i64))))), 1, .bool, fun x => spec_l05Ok k x⟩
theorem spec_l05Ok_l1_ok (k : Nat) : LoopOK (mkEnv ti [(26, fe_spec_l05Simplex k), (27, fe_spec_l05Before k), (29, fe_spec_l05Drop), (28, fe_spec_l05Find k)] (lk []) pins0 pinB0) (spec_l05Ok_O k) (rdC (mkEnv ti [(26, fe_spec_l05Simplex k), (27, fe_spec_l05Before k), (29, fe_spec_l05Drop), (28, fe_spec_l05Find k)] (lk []) pins0 pinB0) [.tmp 2] .bool) ((loopsOf (codeOf Try.f14)).getD 1 .skip) (fun σ kx => spec_l05Ok_l1_h.get σ fun x => spec_l05Ok_l1_F k k x kx) := by
  refine ⟨spec_l05Ok_l1_h, [(2, spec_l05Ok_l1_x2)], fun n x kx => spec_l05Ok_l1_F k n x kx, k, by kernel_rfl, by kernel_rfl, fun x kx => by kernel_rfl, ?_, fun σ kx => rfl⟩
  rintro n ⟨⟨c0, i3, s4, k5, ⟨⟩⟩, ⟨⟩, ⟨⟩⟩ kx
  kernel_rfl
theorem spec_l05Ok_l0_ok (k : Nat) : LoopOK (mkEnv ti [(26, fe_spec_l05Simplex k), (27, fe_spec_l05Before k), (29, fe_spec_l05Drop), (28, fe_spec_l05Find k)] (lk []) pins0 pinB0) (spec_l05Ok_O k) (rdC (mkEnv ti [(26, fe_spec_l05Simplex k), (27, fe_spec_l05Before k), (29, fe_spec_l05Drop), (28, fe_spec_l05Find k)] (lk []) pins0 pinB0) [.tmp 2] .bool) ((loopsOf (codeOf Try.f14)).getD 0 .skip) (fun σ kx => spec_l05Ok_l0_h.get σ fun x => spec_l05Ok_l0_F k k x kx) := by
  refine ⟨spec_l05Ok_l0_h, [(0, spec_l05Ok_l0_x0)], fun n x kx => spec_l05Ok_l0_F k n x kx, k, by kernel_rfl, by kernel_rfl, fun x kx => by kernel_rfl, ?_, fun σ kx => rfl⟩
  rintro n ⟨⟨c0, i3, ⟨⟩⟩, ⟨⟩, ⟨⟩⟩ kx
  kernel_rfl
theorem ok_spec_l05Ok (k : Nat) : FnOK Try.prog 14 (fe_spec_l05Ok k) := by
  refine closed_ok (tab := [(26, fe_spec_l05Simplex k), (27, fe_spec_l05Before k), (29, fe_spec_l05Drop), (28, fe_spec_l05Find k)]) (l := []) ti_ok ti_ht mix (List.forall_mem_cons.2 ⟨ok_spec_l05Simplex k, (List.forall_mem_cons.2 ⟨ok_spec_l05Before k, (List.forall_mem_cons.2 ⟨ok_spec_l05Drop, (List.forall_mem_cons.2 ⟨ok_spec_l05Find k, (List.forall_mem_nil _)⟩)⟩)⟩)⟩) (List.forall_mem_nil _) ⟨⟨Try.f14, (codeOf Try.f14), [.tmp 2], (spec_l05Ok_O k), by kernel_rfl, by kernel_rfl, by kernel_rfl, by kernel_rfl, rfl, by decide, ⟨by kernel_rfl, ?_, ?_⟩, ?_⟩⟩
  · refine loops_of (n := 2) (by kernel_rfl) fun i hi => ?_
    match i, hi with
    | 0, _ => exact loop_of (by kernel_rfl) (spec_l05Ok_l0_ok k)
    | 1, _ => exact loop_of (by kernel_rfl) (spec_l05Ok_l1_ok k)
    | n + 2, hi => omega
  · exact no_cuts (by kernel_rfl)
  · rintro c0
    kernel_rfl
/- 32 loop.example/g01005/spec.l00Has -/
def spec_l00Has_l0 (k : Nat) : Nat → (List Int) → Int → Int → (Option Bool) → Option Bool
  | 0, _, _, _, _ => none
  | n + 1, list0, n1, i5, e_0 => (if (decide (i5 < (List.length list0 : Int))) = true then (if 0 ≤ i5 then (list0[i5.toNat]?).bind fun y_1 => (if (decide (y_1 = n1)) = true then some true else spec_l00Has_l0 k n list0 n1 (w_i64 (i5 + 1)) e_0) else none) else e_0)
def spec_l00Has (k : Nat) (list0 : List Int) (n1 : Int) : Option Bool := spec_l00Has_l0 k k list0 n1 0 (some false)
def spec_l00Has_l0_h : Head := ⟨[(0, (.val (.sl 2 (.int .i64)))), (1, (.val (.int .i64))), (5, (.val (.int .i64)))], [], []⟩
def spec_l00Has_l0_x0 : Head := ⟨[], [], []⟩
def spec_l00Has_l0_F (k n : Nat) (x : spec_l00Has_l0_h.T) (kx : Nat → St → Option Bool) : Option Bool := spec_l00Has_l0 k n x.1.1 x.1.2.1 x.1.2.2.1 (kx 0 (spec_l00Has_l0_x0.fill ((), (), ())))
def spec_l00Has_O (k : Nat) : Oracles Bool := ⟨fun n => bif Nat.beq n 2 then some (fun σ kx => spec_l00Has_l0_h.get σ fun x => spec_l00Has_l0_F k k x kx) else none, fun _ => none⟩
def fe_spec_l00Has (k : Nat) : FE := ⟨(.pr (.sl 2 (.int .i64)) (.int .i64)), 1, .bool, fun x => spec_l00Has k x.1 x.2⟩
theorem spec_l00Has_l0_ok (k : Nat) : LoopOK (mkEnv ti [] (lk []) pins0 pinB0) (spec_l00Has_O k) (rdC (mkEnv ti [] (lk []) pins0 pinB0) [.tmp 4] .bool) ((loopsOf (codeOf Try.f32)).getD 0 .skip) (fun σ kx => spec_l00Has_l0_h.get σ fun x => spec_l00Has_l0_F k k x kx) := by
  refine ⟨spec_l00Has_l0_h, [(0, spec_l00Has_l0_x0)], fun n x kx => spec_l00Has_l0_F k n x kx, k, by kernel_rfl, by kernel_rfl, fun x kx => by kernel_rfl, ?_, fun σ kx => rfl⟩
  rintro n ⟨⟨list0, n1, i5, ⟨⟩⟩, ⟨⟩, ⟨⟩⟩ kx
  kernel_rfl
theorem ok_spec_l00Has (k : Nat) : FnOK Try.prog 32 (fe_spec_l00Has k) := by
  refine closed_ok (tab := []) (l := []) ti_ok ti_ht mix (List.forall_mem_nil _) (List.forall_mem_nil _) ⟨⟨Try.f32, (codeOf Try.f32), [.tmp 4], (spec_l00Has_O k), by kernel_rfl, by kernel_rfl, by kernel_rfl, by kernel_rfl, rfl, by decide, ⟨by kernel_rfl, ?_, ?_⟩, ?_⟩⟩
  · refine loops_of (n := 1) (by kernel_rfl) fun i hi => ?_
    match i, hi with
    | 0, _ => exact loop_of (by kernel_rfl) (spec_l00Has_l0_ok k)
    | n + 1, hi => omega
  · exact no_cuts (by kernel_rfl)
  · rintro ⟨list0, n1⟩
    kernel_rfl
/- 71 loop.example/g01005/spec.l05Part -/
def spec_l05Part_l0 (k : Nat) : Nat → (List Int) → (List Int) → Int → (Option Bool) → Option Bool
  | 0, _, _, _, _ => none
  | n + 1, a0, b1, i5, e_0 => (if (decide (i5 < (List.length a0 : Int))) = true then (if 0 ≤ i5 then (a0[i5.toNat]?).bind fun y_1 => (spec_l00Has k b1 y_1).bind fun r_2 => (if (!r_2) = true then some false else spec_l05Part_l0 k n a0 b1 (w_i64 (i5 + 1)) e_0) else none) else e_0)
def spec_l05Part (k : Nat) (a0 : List Int) (b1 : List Int) : Option Bool := spec_l05Part_l0 k k a0 b1 0 (some true)
def spec_l05Part_l0_h : Head := ⟨[(0, (.val (.sl 2 (.int .i64)))), (1, (.val (.sl 2 (.int .i64)))), (5, (.val (.int .i64)))], [], []⟩
def spec_l05Part_l0_x0 : Head := ⟨[], [], []⟩
def spec_l05Part_l0_F (k n : Nat) (x : spec_l05Part_l0_h.T) (kx : Nat → St → Option Bool) : Option Bool := spec_l05Part_l0 k n x.1.1 x.1.2.1 x.1.2.2.1 (kx 0 (spec_l05Part_l0_x0.fill ((), (), ())))
def spec_l05Part_O (k : Nat) : Oracles Bool := ⟨fun n => bif Nat.beq n 2 then some (fun σ kx => spec_l05Part_l0_h.get σ fun x => spec_l05Part_l0_F k k x kx) else none, fun _ => none⟩
def fe_spec_l05Part (k : Nat) : FE := ⟨(.pr (.sl 2 (.int .i64)) (.sl 2 (.int .i64))), 1, .bool, fun x => spec_l05Part k x.1 x.2⟩
theorem spec_l05Part_l0_ok (k : Nat) : LoopOK (mkEnv ti [(32, fe_spec_l00Has k)] (lk []) pins0 pinB0) (spec_l05Part_O k) (rdC (mkEnv ti [(32, fe_spec_l00Has k)] (lk []) pins0 pinB0) [.tmp 4] .bool) ((loopsOf (codeOf Try.f71)).getD 0 .skip) (fun σ kx => spec_l05Part_l0_h.get σ fun x => spec_l05Part_l0_F k k x kx) := by
  refine ⟨spec_l05Part_l0_h, [(0, spec_l05Part_l0_x0)], fun n x kx => spec_l05Part_l0_F k n x kx, k, by kernel_rfl, by kernel_rfl, fun x kx => by kernel_rfl, ?_, fun σ kx => rfl⟩
  rintro n ⟨⟨a0, b1, i5, ⟨⟩⟩, ⟨⟩, ⟨⟩⟩ kx
  kernel_rfl
theorem ok_spec_l05Part (k : Nat) : FnOK Try.prog 71 (fe_spec_l05Part k) := by
  refine closed_ok (tab := [(32, fe_spec_l00Has k)]) (l := []) ti_ok ti_ht mix (List.forall_mem_cons.2 ⟨ok_spec_l00Has k, (List.forall_mem_nil _)⟩) (List.forall_mem_nil _) ⟨⟨Try.f71, (codeOf Try.f71), [.tmp 4], (spec_l05Part_O k), by kernel_rfl, by kernel_rfl, by kernel_rfl, by kernel_rfl, rfl, by decide, ⟨by kernel_rfl, ?_, ?_⟩, ?_⟩⟩
  · refine loops_of (n := 1) (by kernel_rfl) fun i hi => ?_
    match i, hi with
    | 0, _ => exact loop_of (by kernel_rfl) (spec_l05Part_l0_ok k)
    | n + 1, hi => omega
  · exact no_cuts (by kernel_rfl)
  · rintro ⟨a0, b1⟩
    kernel_rfl
/- 54 loop.example/g01005/spec.l05Star -/
def spec_l05Star_l0 (k : Nat) : Nat → (List (List Int)) → (List Int) → Int → (List Int) → ((List Int) → Option (List Int)) → Option (List Int)
  | 0, _, _, _, _, _ => none
  | n + 1, c0, s1, i6, q_1, e_0 => (if (decide (i6 < (List.length c0 : Int))) = true then (if 0 ≤ i6 then (c0[i6.toNat]?).bind fun y_2 => (spec_l05Part k s1 y_2).bind fun r_3 => (if r_3 = true then (if (q_1.length + [i6].length) * 8 ≤ LIM then spec_l05Star_l0 k n c0 s1 (w_i64 (i6 + 1)) (q_1 ++ [i6]) e_0 else none) else spec_l05Star_l0 k n c0 s1 (w_i64 (i6 + 1)) q_1 e_0) else none) else e_0 q_1)
def spec_l05Star (k : Nat) (c0 : List (List Int)) (s1 : List Int) : Option (List Int) := spec_l05Star_l0 k k c0 s1 0 [] (fun q_4 => some q_4)
def spec_l05Star_l0_h : Head := ⟨[(0, (.val (.ptr (.st (.sl 43 (.sl 2 (.int .i64))))))), (1, (.val (.sl 2 (.int .i64)))), (5, (.ref 64000000 [])), (6, (.val (.int .i64)))], [(64000000, 2, (.int .i64), false)], []⟩
def spec_l05Star_l0_x0 : Head := ⟨[(5, (.ref 64000000 []))], [(64000000, 2, (.int .i64), false)], []⟩
def spec_l05Star_l0_F (k n : Nat) (x : spec_l05Star_l0_h.T) (kx : Nat → St → Option (List Int)) : Option (List Int) := spec_l05Star_l0 k n x.1.1 x.1.2.1 x.1.2.2.2.1 x.2.1.1 (fun (q_4 : List Int) => kx 0 (spec_l05Star_l0_x0.fill (((), ()), (q_4, ()), ())))
def spec_l05Star_O (k : Nat) : Oracles (List Int) := ⟨fun n => bif Nat.beq n 3 then some (fun σ kx => spec_l05Star_l0_h.get σ fun x => spec_l05Star_l0_F k k x kx) else none, fun _ => none⟩
def fe_spec_l05Star (k : Nat) : FE := ⟨(.pr (.ptr (.st (.sl 43 (.sl 2 (.int .i64))))) (.sl 2 (.int .i64))), 1, (.sl 2 (.int .i64)), fun x => spec_l05Star k x.1 x.2⟩
theorem spec_l05Star_l0_ok (k : Nat) : LoopOK (mkEnv ti [(71, fe_spec_l05Part k)] (lk []) pins0 pinB0) (spec_l05Star_O k) (rdC (mkEnv ti [(71, fe_spec_l05Part k)] (lk []) pins0 pinB0) [.tmp 4] (.sl 2 (.int .i64))) ((loopsOf (codeOf Try.f54)).getD 0 .skip) (fun σ kx => spec_l05Star_l0_h.get σ fun x => spec_l05Star_l0_F k k x kx) := by
  refine ⟨spec_l05Star_l0_h, [(0, spec_l05Star_l0_x0)], fun n x kx => spec_l05Star_l0_F k n x kx, k, by kernel_rfl, by kernel_rfl, fun x kx => by kernel_rfl, ?_, fun σ kx => rfl⟩
  rintro n ⟨⟨c0, s1, ⟨⟩, i6, ⟨⟩⟩, ⟨q_1, ⟨⟩⟩, ⟨⟩⟩ kx
  kernel_rfl
theorem ok_spec_l05Star (k : Nat) : FnOK Try.prog 54 (fe_spec_l05Star k) := by
  refine closed_ok (tab := [(71, fe_spec_l05Part k)]) (l := []) ti_ok ti_ht mix (List.forall_mem_cons.2 ⟨ok_spec_l05Part k, (List.forall_mem_nil _)⟩) (List.forall_mem_nil _) ⟨⟨Try.f54, (codeOf Try.f54), [.tmp 4], (spec_l05Star_O k), by kernel_rfl, by kernel_rfl, by kernel_rfl, by kernel_rfl, rfl, by decide, ⟨by kernel_rfl, ?_, ?_⟩, ?_⟩⟩
  · refine loops_of (n := 1) (by kernel_rfl) fun i hi => ?_
    match i, hi with
    | 0, _ => exact loop_of (by kernel_rfl) (spec_l05Star_l0_ok k)
    | n + 1, hi => omega
  · exact no_cuts (by kernel_rfl)
  · rintro ⟨c0, s1⟩
    kernel_rfl
end
end Go.Proofs.Ytnlpjpfpjnmjmaa.Ev
