/- Functions of the program, as plain ones. No conditions. -/
import Derived.Test.YtpliblemabkikaaDoorG0
import Derived.KernelRfl
set_option linter.unusedVariables false
set_option maxRecDepth 100000
namespace Go.Proofs.YtpliblemabkikaaDoor.Ev
open Go.RowKit
noncomputable section
/- 30 loop.example/g01005/laws.szInt64S -/
def laws_szInt64S (a0 : List Int) (left1 : Int) : Option Int := (if (decide ((w_i64 (left1 - (List.length a0 : Int))) < 0)) = true then some (-1) else some (w_i64 (left1 - (List.length a0 : Int))))
def fe_laws_szInt64S : FE := ⟨(.pr (.sl 2 (.int .i64)) (.int .i64)), 1, (.int .i64), fun x => laws_szInt64S x.1 x.2⟩
theorem ok_laws_szInt64S : FnOK Tryd.prog 30 (fe_laws_szInt64S) := by
  refine closed_ok (tab := []) (l := []) ti_ok ti_ht mix (List.forall_mem_nil _) (List.forall_mem_nil _) ⟨⟨Tryd.f30, (codeOf Tryd.f30), [.tmp 4], (LOn Int), by kernel_rfl, by kernel_rfl, by kernel_rfl, by kernel_rfl, rfl, by decide, ⟨by kernel_rfl, ?_, ?_⟩, ?_⟩⟩
  · exact no_loops (by kernel_rfl)
  · exact no_cuts (by kernel_rfl)
  · rintro ⟨a0, left1⟩
    kernel_rfl
/- 13 loop.example/g01005/laws.szInt64SS -/
def laws_szInt64SS_l0 (k : Nat) : Nat → (List (List Int)) → Int → Int → (Int → Option Int) → Option Int
  | 0, _, _, _, _ => none
  | n + 1, a0, left1, i5, e_0 => (if (decide (i5 < (List.length a0 : Int))) = true then (if 0 ≤ i5 then (a0[i5.toNat]?).bind fun y_1 => (laws_szInt64S y_1 left1).bind fun r_2 => (if (decide (r_2 < 0)) = true then some (-1) else laws_szInt64SS_l0 k n a0 r_2 (w_i64 (i5 + 1)) e_0) else none) else e_0 left1)
def laws_szInt64SS (k : Nat) (a0 : List (List Int)) (left1 : Int) : Option Int := (if (decide ((w_i64 (left1 - (List.length a0 : Int))) < 0)) = true then some (-1) else laws_szInt64SS_l0 k k a0 (w_i64 (left1 - (List.length a0 : Int))) 0 (fun left_3 => some left_3))
def laws_szInt64SS_l0_h : Head := ⟨[(0, (.val (.sl 41 (.sl 2 (.int .i64))))), (1, (.val (.int .i64))), (5, (.val (.int .i64)))], [], []⟩
def laws_szInt64SS_l0_x0 : Head := ⟨[(1, (.val (.int .i64)))], [], []⟩
def laws_szInt64SS_l0_F (k n : Nat) (x : laws_szInt64SS_l0_h.T) (kx : Nat → St → Option Int) : Option Int := laws_szInt64SS_l0 k n x.1.1 x.1.2.1 x.1.2.2.1 (fun (left1 : Int) => kx 0 (laws_szInt64SS_l0_x0.fill ((left1, ()), (), ())))
def laws_szInt64SS_O (k : Nat) : Oracles Int := ⟨fun n => bif Nat.beq n 5 then some (fun σ kx => laws_szInt64SS_l0_h.get σ fun x => laws_szInt64SS_l0_F k k x kx) else none, fun _ => none⟩
def fe_laws_szInt64SS (k : Nat) : FE := ⟨(.pr (.sl 41 (.sl 2 (.int .i64))) (.int .i64)), 1, (.int .i64), fun x => laws_szInt64SS k x.1 x.2⟩
theorem laws_szInt64SS_l0_ok (k : Nat) : LoopOK (mkEnv ti [(30, fe_laws_szInt64S)] (lk []) pins0 pinB0) (laws_szInt64SS_O k) (rdC (mkEnv ti [(30, fe_laws_szInt64S)] (lk []) pins0 pinB0) [.tmp 4] (.int .i64)) ((loopsOf (codeOf Tryd.f13)).getD 0 .skip) (fun σ kx => laws_szInt64SS_l0_h.get σ fun x => laws_szInt64SS_l0_F k k x kx) := by
  refine ⟨laws_szInt64SS_l0_h, [(0, laws_szInt64SS_l0_x0)], fun n x kx => laws_szInt64SS_l0_F k n x kx, k, by kernel_rfl, by kernel_rfl, fun x kx => by kernel_rfl, ?_, fun σ kx => rfl⟩
  rintro n ⟨⟨a0, left1, i5, ⟨⟩⟩, ⟨⟩, ⟨⟩⟩ kx
  kernel_rfl
theorem ok_laws_szInt64SS (k : Nat) : FnOK Tryd.prog 13 (fe_laws_szInt64SS k) := by
  refine closed_ok (tab := [(30, fe_laws_szInt64S)]) (l := []) ti_ok ti_ht mix (List.forall_mem_cons.2 ⟨ok_laws_szInt64S, (List.forall_mem_nil _)⟩) (List.forall_mem_nil _) ⟨⟨Tryd.f13, (codeOf Tryd.f13), [.tmp 4], (laws_szInt64SS_O k), by kernel_rfl, by kernel_rfl, by kernel_rfl, by kernel_rfl, rfl, by decide, ⟨by kernel_rfl, ?_, ?_⟩, ?_⟩⟩
  · refine loops_of (n := 1) (by kernel_rfl) fun i hi => ?_
    match i, hi with
    | 0, _ => exact loop_of (by kernel_rfl) (laws_szInt64SS_l0_ok k)
    | n + 1, hi => omega
  · exact no_cuts (by kernel_rfl)
  · rintro ⟨a0, left1⟩
    kernel_rfl
/- 4 loop.example/g01005/laws.szPoset -/
def laws_szPoset (k : Nat) (a0 : Int × List (List Int)) (left1 : Int) : Option Int := (laws_szInt64SS k a0.2 left1).bind fun r_1 => (if (decide (r_1 < 0)) = true then some (-1) else some r_1)
def fe_laws_szPoset (k : Nat) : FE := ⟨(.pr (.st (.pr (.int .i64) (.sl 41 (.sl 2 (.int .i64))))) (.int .i64)), 1, (.int .i64), fun x => laws_szPoset k x.1 x.2⟩
theorem ok_laws_szPoset (k : Nat) : FnOK Tryd.prog 4 (fe_laws_szPoset k) := by
  refine closed_ok (tab := [(13, fe_laws_szInt64SS k)]) (l := []) ti_ok ti_ht mix (List.forall_mem_cons.2 ⟨ok_laws_szInt64SS k, (List.forall_mem_nil _)⟩) (List.forall_mem_nil _) ⟨⟨Tryd.f4, (codeOf Tryd.f4), [.tmp 4], (LOn Int), by kernel_rfl, by kernel_rfl, by kernel_rfl, by kernel_rfl, rfl, by decide, ⟨by kernel_rfl, ?_, ?_⟩, ?_⟩⟩
  · exact no_loops (by kernel_rfl)
  · exact no_cuts (by kernel_rfl)
  · rintro ⟨a0, left1⟩
    kernel_rfl
/- 39 loop.example/g01005/laws.toInt64S -/
def laws_toInt64S_l0 (k : Nat) : Nat → (List Int) → Int → (List Int) → ((List Int) → Option (List Int)) → Option (List Int)
  | 0, _, _, _, _ => none
  | n + 1, a0, i4, q_1, e_0 => (if (decide (i4 < (List.length a0 : Int))) = true then (if 0 ≤ i4 then (a0[i4.toNat]?).bind fun y_2 => (if 0 ≤ i4 ∧ i4.toNat < List.length q_1 then (q_1[i4.toNat]?).bind fun y_3 => (q_1[i4.toNat]?).bind fun y_4 => laws_toInt64S_l0 k n a0 (w_i64 (i4 + 1)) (q_1.set i4.toNat y_2) e_0 else none) else none) else e_0 q_1)
def laws_toInt64S (k : Nat) (a0 : List Int) : Option (List Int) := (if 0 ≤ (List.length a0 : Int) ∧ (List.length a0 : Int) ≤ (List.length a0 : Int) ∧ (List.length a0 : Int) * 8 ≤ LIM then laws_toInt64S_l0 k k a0 0 (List.replicate (List.length a0) 0) (fun q_5 => some q_5) else none)
def laws_toInt64S_l0_h : Head := ⟨[(0, (.val (.sl 2 (.int .i64)))), (3, (.ref 64000000 [])), (4, (.val (.int .i64)))], [(64000000, 2, (.int .i64), false)], []⟩
def laws_toInt64S_l0_x0 : Head := ⟨[(3, (.ref 64000000 []))], [(64000000, 2, (.int .i64), false)], []⟩
def laws_toInt64S_l0_F (k n : Nat) (x : laws_toInt64S_l0_h.T) (kx : Nat → St → Option (List Int)) : Option (List Int) := laws_toInt64S_l0 k n x.1.1 x.1.2.2.1 x.2.1.1 (fun (q_5 : List Int) => kx 0 (laws_toInt64S_l0_x0.fill (((), ()), (q_5, ()), ())))
def laws_toInt64S_O (k : Nat) : Oracles (List Int) := ⟨fun n => bif Nat.beq n 3 then some (fun σ kx => laws_toInt64S_l0_h.get σ fun x => laws_toInt64S_l0_F k k x kx) else none, fun _ => none⟩
def fe_laws_toInt64S (k : Nat) : FE := ⟨(.sl 2 (.int .i64)), 1, (.sl 2 (.int .i64)), fun x => laws_toInt64S k x⟩
theorem laws_toInt64S_l0_ok (k : Nat) : LoopOK (mkEnv ti [] (lk []) pins0 pinB0) (laws_toInt64S_O k) (rdC (mkEnv ti [] (lk []) pins0 pinB0) [.tmp 2] (.sl 2 (.int .i64))) ((loopsOf (codeOf Tryd.f39)).getD 0 .skip) (fun σ kx => laws_toInt64S_l0_h.get σ fun x => laws_toInt64S_l0_F k k x kx) := by
  refine ⟨laws_toInt64S_l0_h, [(0, laws_toInt64S_l0_x0)], fun n x kx => laws_toInt64S_l0_F k n x kx, k, by kernel_rfl, by kernel_rfl, fun x kx => by kernel_rfl, ?_, fun σ kx => rfl⟩
  rintro n ⟨⟨a0, ⟨⟩, i4, ⟨⟩⟩, ⟨q_1, ⟨⟩⟩, ⟨⟩⟩ kx
  kernel_rfl
theorem ok_laws_toInt64S (k : Nat) : FnOK Tryd.prog 39 (fe_laws_toInt64S k) := by
  refine closed_ok (tab := []) (l := []) ti_ok ti_ht mix (List.forall_mem_nil _) (List.forall_mem_nil _) ⟨⟨Tryd.f39, (codeOf Tryd.f39), [.tmp 2], (laws_toInt64S_O k), by kernel_rfl, by kernel_rfl, by kernel_rfl, by kernel_rfl, rfl, by decide, ⟨by kernel_rfl, ?_, ?_⟩, ?_⟩⟩
  · refine loops_of (n := 1) (by kernel_rfl) fun i hi => ?_
    match i, hi with
    | 0, _ => exact loop_of (by kernel_rfl) (laws_toInt64S_l0_ok k)
    | n + 1, hi => omega
  · exact no_cuts (by kernel_rfl)
  · rintro a0
    kernel_rfl
/- 21 loop.example/g01005/laws.toInt64SS -/
def laws_toInt64SS_l0 (k : Nat) : Nat → (List (List Int)) → Int → (List (List Int)) → ((List (List Int)) → Option (List (List Int))) → Option (List (List Int))
  | 0, _, _, _, _ => none
  | n + 1, a0, i4, q_1, e_0 => (if (decide (i4 < (List.length a0 : Int))) = true then (if 0 ≤ i4 then (a0[i4.toNat]?).bind fun y_2 => (laws_toInt64S k y_2).bind fun r_3 => (if 0 ≤ i4 ∧ i4.toNat < List.length q_1 then (q_1[i4.toNat]?).bind fun y_4 => (q_1[i4.toNat]?).bind fun y_5 => laws_toInt64SS_l0 k n a0 (w_i64 (i4 + 1)) (q_1.set i4.toNat r_3) e_0 else none) else none) else e_0 q_1)
def laws_toInt64SS (k : Nat) (a0 : List (List Int)) : Option (List (List Int)) := (if 0 ≤ (List.length a0 : Int) ∧ (List.length a0 : Int) ≤ (List.length a0 : Int) ∧ (List.length a0 : Int) * 24 ≤ LIM then laws_toInt64SS_l0 k k a0 0 (List.replicate (List.length a0) ([] : List Int)) (fun q_6 => some q_6) else none)
def laws_toInt64SS_l0_h : Head := ⟨[(0, (.val (.sl 41 (.sl 2 (.int .i64))))), (3, (.ref 64000000 [])), (4, (.val (.int .i64)))], [(64000000, 41, (.sl 2 (.int .i64)), false)], []⟩
def laws_toInt64SS_l0_x0 : Head := ⟨[(3, (.ref 64000000 []))], [(64000000, 41, (.sl 2 (.int .i64)), false)], []⟩
def laws_toInt64SS_l0_F (k n : Nat) (x : laws_toInt64SS_l0_h.T) (kx : Nat → St → Option (List (List Int))) : Option (List (List Int)) := laws_toInt64SS_l0 k n x.1.1 x.1.2.2.1 x.2.1.1 (fun (q_6 : List (List Int)) => kx 0 (laws_toInt64SS_l0_x0.fill (((), ()), (q_6, ()), ())))
def laws_toInt64SS_O (k : Nat) : Oracles (List (List Int)) := ⟨fun n => bif Nat.beq n 3 then some (fun σ kx => laws_toInt64SS_l0_h.get σ fun x => laws_toInt64SS_l0_F k k x kx) else none, fun _ => none⟩
def fe_laws_toInt64SS (k : Nat) : FE := ⟨(.sl 41 (.sl 2 (.int .i64))), 1, (.sl 41 (.sl 2 (.int .i64))), fun x => laws_toInt64SS k x⟩
theorem laws_toInt64SS_l0_ok (k : Nat) : LoopOK (mkEnv ti [(39, fe_laws_toInt64S k)] (lk []) pins0 pinB0) (laws_toInt64SS_O k) (rdC (mkEnv ti [(39, fe_laws_toInt64S k)] (lk []) pins0 pinB0) [.tmp 2] (.sl 41 (.sl 2 (.int .i64)))) ((loopsOf (codeOf Tryd.f21)).getD 0 .skip) (fun σ kx => laws_toInt64SS_l0_h.get σ fun x => laws_toInt64SS_l0_F k k x kx) := by
  refine ⟨laws_toInt64SS_l0_h, [(0, laws_toInt64SS_l0_x0)], fun n x kx => laws_toInt64SS_l0_F k n x kx, k, by kernel_rfl, by kernel_rfl, fun x kx => by kernel_rfl, ?_, fun σ kx => rfl⟩
  rintro n ⟨⟨a0, ⟨⟩, i4, ⟨⟩⟩, ⟨q_1, ⟨⟩⟩, ⟨⟩⟩ kx
  kernel_rfl
theorem ok_laws_toInt64SS (k : Nat) : FnOK Tryd.prog 21 (fe_laws_toInt64SS k) := by
  refine closed_ok (tab := [(39, fe_laws_toInt64S k)]) (l := []) ti_ok ti_ht mix (List.forall_mem_cons.2 ⟨ok_laws_toInt64S k, (List.forall_mem_nil _)⟩) (List.forall_mem_nil _) ⟨⟨Tryd.f21, (codeOf Tryd.f21), [.tmp 2], (laws_toInt64SS_O k), by kernel_rfl, by kernel_rfl, by kernel_rfl, by kernel_rfl, rfl, by decide, ⟨by kernel_rfl, ?_, ?_⟩, ?_⟩⟩
  · refine loops_of (n := 1) (by kernel_rfl) fun i hi => ?_
    match i, hi with
    | 0, _ => exact loop_of (by kernel_rfl) (laws_toInt64SS_l0_ok k)
    | n + 1, hi => omega
  · exact no_cuts (by kernel_rfl)
  · rintro a0
    kernel_rfl
/- 6 loop.example/g01005/laws.toPoset -/
def laws_toPoset (k : Nat) (a0 : Int × List (List Int)) : Option (Int × List (List Int)) := (laws_toInt64SS k a0.2).bind fun r_1 => some (a0.1, r_1)
def fe_laws_toPoset (k : Nat) : FE := ⟨(.st (.pr (.int .i64) (.sl 41 (.sl 2 (.int .i64))))), 1, (.st (.pr (.int .i64) (.sl 41 (.sl 2 (.int .i64))))), fun x => laws_toPoset k x⟩
theorem ok_laws_toPoset (k : Nat) : FnOK Tryd.prog 6 (fe_laws_toPoset k) := by
  refine closed_ok (tab := [(21, fe_laws_toInt64SS k)]) (l := []) ti_ok ti_ht mix (List.forall_mem_cons.2 ⟨ok_laws_toInt64SS k, (List.forall_mem_nil _)⟩) (List.forall_mem_nil _) ⟨⟨Tryd.f6, (codeOf Tryd.f6), [.cell 2 29], (LOn (Int × List (List Int))), by kernel_rfl, by kernel_rfl, by kernel_rfl, by kernel_rfl, rfl, by decide, ⟨by kernel_rfl, ?_, ?_⟩, ?_⟩⟩
  · exact no_loops (by kernel_rfl)
  · exact no_cuts (by kernel_rfl)
  · rintro a0
    kernel_rfl
/- 31 loop.example/g01005/spec.l00In -/
def spec_l00In (n0 : Int) (low1 : Int) (high2 : Int) : Option Bool := (if (decide (low1 ≤ n0)) = true then some (decide (n0 ≤ high2)) else some false)
def fe_spec_l00In : FE := ⟨(.pr (.int .i64) (.pr (.int .i64) (.int .i64))), 1, .bool, fun x => spec_l00In x.1 x.2.1 x.2.2⟩
theorem ok_spec_l00In : FnOK Tryd.prog 31 (fe_spec_l00In) := by
  refine closed_ok (tab := []) (l := []) ti_ok ti_ht mix (List.forall_mem_nil _) (List.forall_mem_nil _) ⟨⟨Tryd.f31, (codeOf Tryd.f31), [.tmp 6], (LOn Bool), by kernel_rfl, by kernel_rfl, by kernel_rfl, by kernel_rfl, rfl, by decide, ⟨by kernel_rfl, ?_, ?_⟩, ?_⟩⟩
  · exact no_loops (by kernel_rfl)
  · exact no_cuts (by kernel_rfl)
  · rintro ⟨n0, low1, high2⟩
    kernel_rfl
/- 32 loop.example/g01005/spec.l06Pairs -/
def spec_l06Pairs_l0 (k : Nat) : Nat → Int → (List (List Int)) → Int → (Option Bool) → Option Bool
  | 0, _, _, _, _ => none
  | n + 1, size0, pairs1, i5, e_0 => (if (decide (i5 < (List.length pairs1 : Int))) = true then (if 0 ≤ i5 then (pairs1[i5.toNat]?).bind fun y_1 => (if (!(decide ((List.length y_1 : Int) = 2))) = true then some false else (if 0 ≤ i5 then (pairs1[i5.toNat]?).bind fun y_2 => (y_2[0]?).bind fun y_3 => (spec_l00In y_3 0 (w_i64 (size0 - 1))).bind fun r_4 => (if (!r_4) = true then some false else (if 0 ≤ i5 then (pairs1[i5.toNat]?).bind fun y_5 => (y_5[1]?).bind fun y_6 => (spec_l00In y_6 0 (w_i64 (size0 - 1))).bind fun r_7 => (if (!r_7) = true then some false else spec_l06Pairs_l0 k n size0 pairs1 (w_i64 (i5 + 1)) e_0) else none)) else none)) else none) else e_0)
def spec_l06Pairs (k : Nat) (size0 : Int) (pairs1 : List (List Int)) : Option Bool := spec_l06Pairs_l0 k k size0 pairs1 0 (some true)
def spec_l06Pairs_l0_h : Head := ⟨[(0, (.val (.int .i64))), (1, (.val (.sl 41 (.sl 2 (.int .i64))))), (5, (.val (.int .i64)))], [], []⟩
def spec_l06Pairs_l0_x0 : Head := ⟨[], [], []⟩
def spec_l06Pairs_l0_F (k n : Nat) (x : spec_l06Pairs_l0_h.T) (kx : Nat → St → Option Bool) : Option Bool := spec_l06Pairs_l0 k n x.1.1 x.1.2.1 x.1.2.2.1 (kx 0 (spec_l06Pairs_l0_x0.fill ((), (), ())))
def spec_l06Pairs_O (k : Nat) : Oracles Bool := ⟨fun n => bif Nat.beq n 2 then some (fun σ kx => spec_l06Pairs_l0_h.get σ fun x => spec_l06Pairs_l0_F k k x kx) else none, fun _ => none⟩
def fe_spec_l06Pairs (k : Nat) : FE := ⟨(.pr (.int .i64) (.sl 41 (.sl 2 (.int .i64)))), 1, .bool, fun x => spec_l06Pairs k x.1 x.2⟩
theorem spec_l06Pairs_l0_ok (k : Nat) : LoopOK (mkEnv ti [(31, fe_spec_l00In)] (lk []) pins0 pinB0) (spec_l06Pairs_O k) (rdC (mkEnv ti [(31, fe_spec_l00In)] (lk []) pins0 pinB0) [.tmp 4] .bool) ((loopsOf (codeOf Tryd.f32)).getD 0 .skip) (fun σ kx => spec_l06Pairs_l0_h.get σ fun x => spec_l06Pairs_l0_F k k x kx) := by
  refine ⟨spec_l06Pairs_l0_h, [(0, spec_l06Pairs_l0_x0)], fun n x kx => spec_l06Pairs_l0_F k n x kx, k, by kernel_rfl, by kernel_rfl, fun x kx => by kernel_rfl, ?_, fun σ kx => rfl⟩
  rintro n ⟨⟨size0, pairs1, i5, ⟨⟩⟩, ⟨⟩, ⟨⟩⟩ kx
  kernel_rfl
theorem ok_spec_l06Pairs (k : Nat) : FnOK Tryd.prog 32 (fe_spec_l06Pairs k) := by
  refine closed_ok (tab := [(31, fe_spec_l00In)]) (l := []) ti_ok ti_ht mix (List.forall_mem_cons.2 ⟨ok_spec_l00In, (List.forall_mem_nil _)⟩) (List.forall_mem_nil _) ⟨⟨Tryd.f32, (codeOf Tryd.f32), [.tmp 4], (spec_l06Pairs_O k), by kernel_rfl, by kernel_rfl, by kernel_rfl, by kernel_rfl, rfl, by decide, ⟨by kernel_rfl, ?_, ?_⟩, ?_⟩⟩
  · refine loops_of (n := 1) (by kernel_rfl) fun i hi => ?_
    match i, hi with
    | 0, _ => exact loop_of (by kernel_rfl) (spec_l06Pairs_l0_ok k)
    | n + 1, hi => omega
  · exact no_cuts (by kernel_rfl)
  · rintro ⟨size0, pairs1⟩
    kernel_rfl
/- 34 loop.example/g01005/spec.l06Table -/
def spec_l06Table_l4 (k : Nat) : Nat → Int → Int → Int → Int → (List (List Bool)) → (Int → Int → Int → (List (List Bool)) → Option (List (List Bool))) → Option (List (List Bool))
  | 0, _, _, _, _, _, _ => none
  | n + 1, size0, k9, a10, b11, q_22, e_8 => (if (decide (b11 < size0)) = true then (if 0 ≤ a10 ∧ a10.toNat < List.length q_22 then (q_22[a10.toNat]?).bind fun y_23 => (q_22[a10.toNat]?).bind fun y_24 => (if 0 ≤ k9 ∧ k9.toNat < List.length y_24 then (q_22[a10.toNat]?).bind fun y_25 => (y_25[k9.toNat]?).bind fun y_26 => (if y_26 = true then (if 0 ≤ k9 ∧ k9.toNat < List.length q_22 then (q_22[k9.toNat]?).bind fun y_27 => (q_22[k9.toNat]?).bind fun y_28 => (if 0 ≤ b11 ∧ b11.toNat < List.length y_28 then (q_22[k9.toNat]?).bind fun y_29 => (y_29[b11.toNat]?).bind fun y_30 => (if y_30 = true then (if 0 ≤ a10 ∧ a10.toNat < List.length q_22 then (q_22[a10.toNat]?).bind fun y_31 => (q_22[a10.toNat]?).bind fun y_32 => (if 0 ≤ b11 ∧ b11.toNat < List.length y_32 then (q_22[a10.toNat]?).bind fun y_33 => (y_33[b11.toNat]?).bind fun y_34 => (q_22[a10.toNat]?).bind fun y_35 => (y_35[b11.toNat]?).bind fun y_36 => spec_l06Table_l4 k n size0 k9 a10 (w_i64 (b11 + 1)) (q_22.set a10.toNat (y_35.set b11.toNat true)) e_8 else none) else none) else spec_l06Table_l4 k n size0 k9 a10 (w_i64 (b11 + 1)) q_22 e_8) else none) else none) else spec_l06Table_l4 k n size0 k9 a10 (w_i64 (b11 + 1)) q_22 e_8) else none) else none) else e_8 size0 k9 a10 q_22)
def spec_l06Table_l3 (k : Nat) : Nat → Int → Int → Int → (List (List Bool)) → (Int → Int → (List (List Bool)) → Option (List (List Bool))) → Option (List (List Bool))
  | 0, _, _, _, _, _ => none
  | n + 1, size0, k9, a10, q_21, e_6 => (if (decide (a10 < size0)) = true then spec_l06Table_l4 k k size0 k9 a10 0 q_21 (fun size_22 k_23 a_24 q_25 => spec_l06Table_l3 k n size_22 k_23 (w_i64 (a_24 + 1)) q_25 e_6) else e_6 size0 k9 q_21)
def spec_l06Table_l0 (k : Nat) : Nat → Int → (List (List Int)) → Int → (List (List Bool)) → (Int → (List (List Int)) → (List (List Bool)) → Option (List (List Bool))) → Option (List (List Bool))
  | 0, _, _, _, _, _ => none
  | n + 1, size0, pairs1, a6, q_1, e_0 => (if (decide (a6 < size0)) = true then (if 0 ≤ size0 ∧ size0 ≤ size0 ∧ size0 * 1 ≤ LIM then (if 0 ≤ a6 ∧ a6.toNat < List.length (List.replicate size0.toNat false) then ((List.replicate size0.toNat false)[a6.toNat]?).bind fun y_2 => ((List.replicate size0.toNat false)[a6.toNat]?).bind fun y_3 => (if (q_1.length + [((List.replicate size0.toNat false).set a6.toNat true)].length) * 24 ≤ LIM then spec_l06Table_l0 k n size0 pairs1 (w_i64 (a6 + 1)) (q_1 ++ [((List.replicate size0.toNat false).set a6.toNat true)]) e_0 else none) else none) else none) else e_0 size0 pairs1 q_1)
def spec_l06Table_l1 (k : Nat) : Nat → Int → (List (List Int)) → Int → (List (List Bool)) → (Int → (List (List Bool)) → Option (List (List Bool))) → Option (List (List Bool))
  | 0, _, _, _, _, _ => none
  | n + 1, size0, pairs1, i8, q_7, e_2 => (if (decide (i8 < (List.length pairs1 : Int))) = true then (if 0 ≤ i8 then (pairs1[i8.toNat]?).bind fun y_8 => (y_8[0]?).bind fun y_9 => (if 0 ≤ y_9 ∧ y_9.toNat < List.length q_7 then (q_7[y_9.toNat]?).bind fun y_10 => (if 0 ≤ i8 then (pairs1[i8.toNat]?).bind fun y_11 => (y_11[1]?).bind fun y_12 => (q_7[y_9.toNat]?).bind fun y_13 => (if 0 ≤ y_12 ∧ y_12.toNat < List.length y_13 then (q_7[y_9.toNat]?).bind fun y_14 => (y_14[y_12.toNat]?).bind fun y_15 => (q_7[y_9.toNat]?).bind fun y_16 => (y_16[y_12.toNat]?).bind fun y_17 => spec_l06Table_l1 k n size0 pairs1 (w_i64 (i8 + 1)) (q_7.set y_9.toNat (y_16.set y_12.toNat true)) e_2 else none) else none) else none) else none) else e_2 size0 q_7)
def spec_l06Table_l2 (k : Nat) : Nat → Int → Int → (List (List Bool)) → ((List (List Bool)) → Option (List (List Bool))) → Option (List (List Bool))
  | 0, _, _, _, _ => none
  | n + 1, size0, k9, q_20, e_4 => (if (decide (k9 < size0)) = true then spec_l06Table_l3 k k size0 k9 0 q_20 (fun size_21 k_22 q_23 => spec_l06Table_l2 k n size_21 (w_i64 (k_22 + 1)) q_23 e_4) else e_4 q_20)
def spec_l06Table (k : Nat) (size0 : Int) (pairs1 : List (List Int)) : Option (List (List Bool)) := spec_l06Table_l0 k k size0 pairs1 0 [] (fun size_4 pairs_5 q_6 => spec_l06Table_l1 k k size_4 pairs_5 0 q_6 (fun size_18 q_19 => spec_l06Table_l2 k k size_18 0 q_19 (fun q_24 => some q_24)))
def spec_l06Table_l4_h : Head := ⟨[(0, (.val (.int .i64))), (5, (.ref 64000000 [])), (9, (.val (.int .i64))), (10, (.val (.int .i64))), (11, (.val (.int .i64)))], [(64000000, 43, (.sl 4 .bool), false)], []⟩
def spec_l06Table_l4_x8 : Head := ⟨[(0, (.val (.int .i64))), (5, (.ref 64000000 [])), (9, (.val (.int .i64))), (10, (.val (.int .i64)))], [(64000000, 43, (.sl 4 .bool), false)], []⟩
def spec_l06Table_l4_F (k n : Nat) (x : spec_l06Table_l4_h.T) (kx : Nat → St → Option (List (List Bool))) : Option (List (List Bool)) := spec_l06Table_l4 k n x.1.1 x.1.2.2.1 x.1.2.2.2.1 x.1.2.2.2.2.1 x.2.1.1 (fun (size0 : Int) (k9 : Int) (a10 : Int) (q_37 : List (List Bool)) => kx 8 (spec_l06Table_l4_x8.fill ((size0, (), k9, a10, ()), (q_37, ()), ())))
def spec_l06Table_l3_h : Head := ⟨[(0, (.val (.int .i64))), (5, (.ref 64000000 [])), (9, (.val (.int .i64))), (10, (.val (.int .i64)))], [(64000000, 43, (.sl 4 .bool), false)], []⟩
def spec_l06Table_l3_x6 : Head := ⟨[(0, (.val (.int .i64))), (5, (.ref 64000000 [])), (9, (.val (.int .i64)))], [(64000000, 43, (.sl 4 .bool), false)], []⟩
def spec_l06Table_l3_F (k n : Nat) (x : spec_l06Table_l3_h.T) (kx : Nat → St → Option (List (List Bool))) : Option (List (List Bool)) := spec_l06Table_l3 k n x.1.1 x.1.2.2.1 x.1.2.2.2.1 x.2.1.1 (fun (size0 : Int) (k9 : Int) (q_41 : List (List Bool)) => kx 6 (spec_l06Table_l3_x6.fill ((size0, (), k9, ()), (q_41, ()), ())))
def spec_l06Table_l0_h : Head := ⟨[(0, (.val (.int .i64))), (1, (.val (.sl 41 (.sl 2 (.int .i64))))), (5, (.ref 64000000 [])), (6, (.val (.int .i64)))], [(64000000, 43, (.sl 4 .bool), false)], []⟩
def spec_l06Table_l0_x0 : Head := ⟨[(0, (.val (.int .i64))), (1, (.val (.sl 41 (.sl 2 (.int .i64))))), (5, (.ref 64000000 []))], [(64000000, 43, (.sl 4 .bool), false)], []⟩
def spec_l06Table_l0_F (k n : Nat) (x : spec_l06Table_l0_h.T) (kx : Nat → St → Option (List (List Bool))) : Option (List (List Bool)) := spec_l06Table_l0 k n x.1.1 x.1.2.1 x.1.2.2.2.1 x.2.1.1 (fun (size0 : Int) (pairs1 : List (List Int)) (q_4 : List (List Bool)) => kx 0 (spec_l06Table_l0_x0.fill ((size0, pairs1, (), ()), (q_4, ()), ())))
def spec_l06Table_l1_h : Head := ⟨[(0, (.val (.int .i64))), (1, (.val (.sl 41 (.sl 2 (.int .i64))))), (5, (.ref 64000000 [])), (8, (.val (.int .i64)))], [(64000000, 43, (.sl 4 .bool), false)], []⟩
def spec_l06Table_l1_x2 : Head := ⟨[(0, (.val (.int .i64))), (5, (.ref 64000000 []))], [(64000000, 43, (.sl 4 .bool), false)], []⟩
def spec_l06Table_l1_F (k n : Nat) (x : spec_l06Table_l1_h.T) (kx : Nat → St → Option (List (List Bool))) : Option (List (List Bool)) := spec_l06Table_l1 k n x.1.1 x.1.2.1 x.1.2.2.2.1 x.2.1.1 (fun (size0 : Int) (q_18 : List (List Bool)) => kx 2 (spec_l06Table_l1_x2.fill ((size0, (), ()), (q_18, ()), ())))
def spec_l06Table_l2_h : Head := ⟨[(0, (.val (.int .i64))), (5, (.ref 64000000 [])), (9, (.val (.int .i64)))], [(64000000, 43, (.sl 4 .bool), false)], []⟩
def spec_l06Table_l2_x4 : Head := ⟨[(5, (.ref 64000000 []))], [(64000000, 43, (.sl 4 .bool), false)], []⟩
def spec_l06Table_l2_F (k n : Nat) (x : spec_l06Table_l2_h.T) (kx : Nat → St → Option (List (List Bool))) : Option (List (List Bool)) := spec_l06Table_l2 k n x.1.1 x.1.2.2.1 x.2.1.1 (fun (q_29 : List (List Bool)) => kx 4 (spec_l06Table_l2_x4.fill (((), ()), (q_29, ()), ())))
def spec_l06Table_O (k : Nat) : Oracles (List (List Bool)) := ⟨fun n => bif Nat.beq n 19 then some (fun σ kx => spec_l06Table_l4_h.get σ fun x => spec_l06Table_l4_F k k x kx) else bif Nat.beq n 16 then some (fun σ kx => spec_l06Table_l3_h.get σ fun x => spec_l06Table_l3_F k k x kx) else bif Nat.beq n 3 then some (fun σ kx => spec_l06Table_l0_h.get σ fun x => spec_l06Table_l0_F k k x kx) else bif Nat.beq n 9 then some (fun σ kx => spec_l06Table_l1_h.get σ fun x => spec_l06Table_l1_F k k x kx) else bif Nat.beq n 13 then some (fun σ kx => spec_l06Table_l2_h.get σ fun x => spec_l06Table_l2_F k k x kx) else none, fun _ => none⟩
def fe_spec_l06Table (k : Nat) : FE := ⟨(.pr (.int .i64) (.sl 41 (.sl 2 (.int .i64)))), 1, (.sl 43 (.sl 4 .bool)), fun x => spec_l06Table k x.1 x.2⟩
theorem spec_l06Table_l4_ok (k : Nat) : LoopOK (mkEnv ti [] (lk []) pins0 pinB0) (spec_l06Table_O k) (rdC (mkEnv ti [] (lk []) pins0 pinB0) [.tmp 4] (.sl 43 (.sl 4 .bool))) ((loopsOf (codeOf Tryd.f34)).getD 4 .skip) (fun σ kx => spec_l06Table_l4_h.get σ fun x => spec_l06Table_l4_F k k x kx) := by
  refine ⟨spec_l06Table_l4_h, [(8, spec_l06Table_l4_x8)], fun n x kx => spec_l06Table_l4_F k n x kx, k, by kernel_rfl, by kernel_rfl, fun x kx => by kernel_rfl, ?_, fun σ kx => rfl⟩
  rintro n ⟨⟨size0, ⟨⟩, k9, a10, b11, ⟨⟩⟩, ⟨q_22, ⟨⟩⟩, ⟨⟩⟩ kx
  kernel_rfl
theorem spec_l06Table_l3_ok (k : Nat) : LoopOK (mkEnv ti [] (lk []) pins0 pinB0) (spec_l06Table_O k) (rdC (mkEnv ti [] (lk []) pins0 pinB0) [.tmp 4] (.sl 43 (.sl 4 .bool))) ((loopsOf (codeOf Tryd.f34)).getD 3 .skip) (fun σ kx => spec_l06Table_l3_h.get σ fun x => spec_l06Table_l3_F k k x kx) := by
  refine ⟨spec_l06Table_l3_h, [(6, spec_l06Table_l3_x6)], fun n x kx => spec_l06Table_l3_F k n x kx, k, by kernel_rfl, by kernel_rfl, fun x kx => by kernel_rfl, ?_, fun σ kx => rfl⟩
  rintro n ⟨⟨size0, ⟨⟩, k9, a10, ⟨⟩⟩, ⟨q_21, ⟨⟩⟩, ⟨⟩⟩ kx
  kernel_rfl
theorem spec_l06Table_l0_ok (k : Nat) : LoopOK (mkEnv ti [] (lk []) pins0 pinB0) (spec_l06Table_O k) (rdC (mkEnv ti [] (lk []) pins0 pinB0) [.tmp 4] (.sl 43 (.sl 4 .bool))) ((loopsOf (codeOf Tryd.f34)).getD 0 .skip) (fun σ kx => spec_l06Table_l0_h.get σ fun x => spec_l06Table_l0_F k k x kx) := by
  refine ⟨spec_l06Table_l0_h, [(0, spec_l06Table_l0_x0)], fun n x kx => spec_l06Table_l0_F k n x kx, k, by kernel_rfl, by kernel_rfl, fun x kx => by kernel_rfl, ?_, fun σ kx => rfl⟩
  rintro n ⟨⟨size0, pairs1, ⟨⟩, a6, ⟨⟩⟩, ⟨q_1, ⟨⟩⟩, ⟨⟩⟩ kx
  kernel_rfl
theorem spec_l06Table_l1_ok (k : Nat) : LoopOK (mkEnv ti [] (lk []) pins0 pinB0) (spec_l06Table_O k) (rdC (mkEnv ti [] (lk []) pins0 pinB0) [.tmp 4] (.sl 43 (.sl 4 .bool))) ((loopsOf (codeOf Tryd.f34)).getD 1 .skip) (fun σ kx => spec_l06Table_l1_h.get σ fun x => spec_l06Table_l1_F k k x kx) := by
  refine ⟨spec_l06Table_l1_h, [(2, spec_l06Table_l1_x2)], fun n x kx => spec_l06Table_l1_F k n x kx, k, by kernel_rfl, by kernel_rfl, fun x kx => by kernel_rfl, ?_, fun σ kx => rfl⟩
  rintro n ⟨⟨size0, pairs1, ⟨⟩, i8, ⟨⟩⟩, ⟨q_7, ⟨⟩⟩, ⟨⟩⟩ kx
  kernel_rfl
theorem spec_l06Table_l2_ok (k : Nat) : LoopOK (mkEnv ti [] (lk []) pins0 pinB0) (spec_l06Table_O k) (rdC (mkEnv ti [] (lk []) pins0 pinB0) [.tmp 4] (.sl 43 (.sl 4 .bool))) ((loopsOf (codeOf Tryd.f34)).getD 2 .skip) (fun σ kx => spec_l06Table_l2_h.get σ fun x => spec_l06Table_l2_F k k x kx) := by
  refine ⟨spec_l06Table_l2_h, [(4, spec_l06Table_l2_x4)], fun n x kx => spec_l06Table_l2_F k n x kx, k, by kernel_rfl, by kernel_rfl, fun x kx => by kernel_rfl, ?_, fun σ kx => rfl⟩
  rintro n ⟨⟨size0, ⟨⟩, k9, ⟨⟩⟩, ⟨q_20, ⟨⟩⟩, ⟨⟩⟩ kx
  kernel_rfl
theorem ok_spec_l06Table (k : Nat) : FnOK Tryd.prog 34 (fe_spec_l06Table k) := by
  refine closed_ok (tab := []) (l := []) ti_ok ti_ht mix (List.forall_mem_nil _) (List.forall_mem_nil _) ⟨⟨Tryd.f34, (codeOf Tryd.f34), [.tmp 4], (spec_l06Table_O k), by kernel_rfl, by kernel_rfl, by kernel_rfl, by kernel_rfl, rfl, by decide, ⟨by kernel_rfl, ?_, ?_⟩, ?_⟩⟩
  · refine loops_of (n := 5) (by kernel_rfl) fun i hi => ?_
    match i, hi with
    | 0, _ => exact loop_of (by kernel_rfl) (spec_l06Table_l0_ok k)
    | 1, _ => exact loop_of (by kernel_rfl) (spec_l06Table_l1_ok k)
    | 2, _ => exact loop_of (by kernel_rfl) (spec_l06Table_l2_ok k)
    | 3, _ => exact loop_of (by kernel_rfl) (spec_l06Table_l3_ok k)
    | 4, _ => exact loop_of (by kernel_rfl) (spec_l06Table_l4_ok k)
    | n + 5, hi => omega
  · exact no_cuts (by kernel_rfl)
  · rintro ⟨size0, pairs1⟩
    kernel_rfl
/- 33 loop.example/g01005/spec.l06Covers -/
def spec_l06Covers_l2 (k : Nat) : Nat → (List (List Bool)) → Int → Int → Bool → Int → (List (List Int)) → ((List (List Bool)) → Int → Int → Bool → (List (List Int)) → Option (List (List Int) × Bool)) → Option (List (List Int) × Bool)
  | 0, _, _, _, _, _, _, _ => none
  | n + 1, table0, a5, b6, between7, x8, q_7, e_4 => (if (decide (x8 < (List.length table0 : Int))) = true then (if between7 = true then spec_l06Covers_l2 k n table0 a5 b6 true (w_i64 (x8 + 1)) q_7 e_4 else (if (!(decide (x8 = a5))) = true then (if (!(decide (x8 = b6))) = true then (if 0 ≤ a5 then (table0[a5.toNat]?).bind fun y_8 => (if 0 ≤ x8 then (y_8[x8.toNat]?).bind fun y_9 => (if y_9 = true then (if 0 ≤ x8 then (table0[x8.toNat]?).bind fun y_10 => (if 0 ≤ b6 then (y_10[b6.toNat]?).bind fun y_11 => spec_l06Covers_l2 k n table0 a5 b6 y_11 (w_i64 (x8 + 1)) q_7 e_4 else none) else none) else spec_l06Covers_l2 k n table0 a5 b6 false (w_i64 (x8 + 1)) q_7 e_4) else none) else none) else spec_l06Covers_l2 k n table0 a5 b6 false (w_i64 (x8 + 1)) q_7 e_4) else spec_l06Covers_l2 k n table0 a5 b6 false (w_i64 (x8 + 1)) q_7 e_4)) else e_4 table0 a5 b6 between7 q_7)
def spec_l06Covers_l1 (k : Nat) : Nat → (List (List Bool)) → Int → Int → (List (List Int)) → ((List (List Bool)) → Int → (List (List Int)) → Option (List (List Int) × Bool)) → Option (List (List Int) × Bool)
  | 0, _, _, _, _, _ => none
  | n + 1, table0, a5, b6, q_2, e_2 => (if (decide (b6 < (List.length table0 : Int))) = true then (if (decide (a5 = b6)) = true then spec_l06Covers_l1 k n table0 a5 (w_i64 (b6 + 1)) q_2 e_2 else (if 0 ≤ a5 then (table0[a5.toNat]?).bind fun y_3 => (if 0 ≤ b6 then (y_3[b6.toNat]?).bind fun y_4 => (if (!y_4) = true then spec_l06Covers_l1 k n table0 a5 (w_i64 (b6 + 1)) q_2 e_2 else (if 0 ≤ b6 then (table0[b6.toNat]?).bind fun y_5 => (if 0 ≤ a5 then (y_5[a5.toNat]?).bind fun y_6 => (if y_6 = true then some ([], false) else spec_l06Covers_l2 k k table0 a5 b6 false 0 q_2 (fun table_7 a_8 b_9 between_10 q_11 => (if (!between_10) = true then (if (q_11.length + [[a_8, b_9]].length) * 24 ≤ LIM then spec_l06Covers_l1 k n table_7 a_8 (w_i64 (b_9 + 1)) (q_11 ++ [[a_8, b_9]]) e_2 else none) else spec_l06Covers_l1 k n table_7 a_8 (w_i64 (b_9 + 1)) q_11 e_2))) else none) else none)) else none) else none)) else e_2 table0 a5 q_2)
def spec_l06Covers_l0 (k : Nat) : Nat → (List (List Bool)) → Int → (List (List Int)) → ((List (List Int)) → Option (List (List Int) × Bool)) → Option (List (List Int) × Bool)
  | 0, _, _, _, _ => none
  | n + 1, table0, a5, q_1, e_0 => (if (decide (a5 < (List.length table0 : Int))) = true then spec_l06Covers_l1 k k table0 a5 0 q_1 (fun table_2 a_3 q_4 => spec_l06Covers_l0 k n table_2 (w_i64 (a_3 + 1)) q_4 e_0) else e_0 q_1)
def spec_l06Covers (k : Nat) (table0 : List (List Bool)) : Option (List (List Int) × Bool) := spec_l06Covers_l0 k k table0 0 [] (fun q_5 => some (q_5, true))
def spec_l06Covers_l2_h : Head := ⟨[(0, (.val (.sl 43 (.sl 4 .bool)))), (4, (.ref 64000000 [])), (5, (.val (.int .i64))), (6, (.val (.int .i64))), (7, (.val .bool)), (8, (.val (.int .i64)))], [(64000000, 41, (.sl 2 (.int .i64)), false)], []⟩
def spec_l06Covers_l2_x4 : Head := ⟨[(0, (.val (.sl 43 (.sl 4 .bool)))), (4, (.ref 64000000 [])), (5, (.val (.int .i64))), (6, (.val (.int .i64))), (7, (.val .bool))], [(64000000, 41, (.sl 2 (.int .i64)), false)], []⟩
def spec_l06Covers_l2_F (k n : Nat) (x : spec_l06Covers_l2_h.T) (kx : Nat → St → Option (List (List Int) × Bool)) : Option (List (List Int) × Bool) := spec_l06Covers_l2 k n x.1.1 x.1.2.2.1 x.1.2.2.2.1 x.1.2.2.2.2.1 x.1.2.2.2.2.2.1 x.2.1.1 (fun (table0 : List (List Bool)) (a5 : Int) (b6 : Int) (between7 : Bool) (q_12 : List (List Int)) => kx 4 (spec_l06Covers_l2_x4.fill ((table0, (), a5, b6, between7, ()), (q_12, ()), ())))
def spec_l06Covers_l1_h : Head := ⟨[(0, (.val (.sl 43 (.sl 4 .bool)))), (4, (.ref 64000000 [])), (5, (.val (.int .i64))), (6, (.val (.int .i64)))], [(64000000, 41, (.sl 2 (.int .i64)), false)], []⟩
def spec_l06Covers_l1_x2 : Head := ⟨[(0, (.val (.sl 43 (.sl 4 .bool)))), (4, (.ref 64000000 [])), (5, (.val (.int .i64)))], [(64000000, 41, (.sl 2 (.int .i64)), false)], []⟩
def spec_l06Covers_l1_F (k n : Nat) (x : spec_l06Covers_l1_h.T) (kx : Nat → St → Option (List (List Int) × Bool)) : Option (List (List Int) × Bool) := spec_l06Covers_l1 k n x.1.1 x.1.2.2.1 x.1.2.2.2.1 x.2.1.1 (fun (table0 : List (List Bool)) (a5 : Int) (q_17 : List (List Int)) => kx 2 (spec_l06Covers_l1_x2.fill ((table0, (), a5, ()), (q_17, ()), ())))
def spec_l06Covers_l0_h : Head := ⟨[(0, (.val (.sl 43 (.sl 4 .bool)))), (4, (.ref 64000000 [])), (5, (.val (.int .i64)))], [(64000000, 41, (.sl 2 (.int .i64)), false)], []⟩
def spec_l06Covers_l0_x0 : Head := ⟨[(4, (.ref 64000000 []))], [(64000000, 41, (.sl 2 (.int .i64)), false)], []⟩
def spec_l06Covers_l0_F (k n : Nat) (x : spec_l06Covers_l0_h.T) (kx : Nat → St → Option (List (List Int) × Bool)) : Option (List (List Int) × Bool) := spec_l06Covers_l0 k n x.1.1 x.1.2.2.1 x.2.1.1 (fun (q_15 : List (List Int)) => kx 0 (spec_l06Covers_l0_x0.fill (((), ()), (q_15, ()), ())))
def spec_l06Covers_O (k : Nat) : Oracles (List (List Int) × Bool) := ⟨fun n => bif Nat.beq n 13 then some (fun σ kx => spec_l06Covers_l2_h.get σ fun x => spec_l06Covers_l2_F k k x kx) else bif Nat.beq n 6 then some (fun σ kx => spec_l06Covers_l1_h.get σ fun x => spec_l06Covers_l1_F k k x kx) else bif Nat.beq n 3 then some (fun σ kx => spec_l06Covers_l0_h.get σ fun x => spec_l06Covers_l0_F k k x kx) else none, fun _ => none⟩
def fe_spec_l06Covers (k : Nat) : FE := ⟨(.sl 43 (.sl 4 .bool)), 2, (.pr (.sl 41 (.sl 2 (.int .i64))) .bool), fun x => spec_l06Covers k x⟩
theorem spec_l06Covers_l2_ok (k : Nat) : LoopOK (mkEnv ti [] (lk []) pins0 pinB0) (spec_l06Covers_O k) (rdC (mkEnv ti [] (lk []) pins0 pinB0) [.tmp 2, .tmp 3] (.pr (.sl 41 (.sl 2 (.int .i64))) .bool)) ((loopsOf (codeOf Tryd.f33)).getD 2 .skip) (fun σ kx => spec_l06Covers_l2_h.get σ fun x => spec_l06Covers_l2_F k k x kx) := by
  refine ⟨spec_l06Covers_l2_h, [(4, spec_l06Covers_l2_x4)], fun n x kx => spec_l06Covers_l2_F k n x kx, k, by kernel_rfl, by kernel_rfl, fun x kx => by kernel_rfl, ?_, fun σ kx => rfl⟩
  rintro n ⟨⟨table0, ⟨⟩, a5, b6, between7, x8, ⟨⟩⟩, ⟨q_7, ⟨⟩⟩, ⟨⟩⟩ kx
  kernel_rfl
theorem spec_l06Covers_l1_ok (k : Nat) : LoopOK (mkEnv ti [] (lk []) pins0 pinB0) (spec_l06Covers_O k) (rdC (mkEnv ti [] (lk []) pins0 pinB0) [.tmp 2, .tmp 3] (.pr (.sl 41 (.sl 2 (.int .i64))) .bool)) ((loopsOf (codeOf Tryd.f33)).getD 1 .skip) (fun σ kx => spec_l06Covers_l1_h.get σ fun x => spec_l06Covers_l1_F k k x kx) := by
  refine ⟨spec_l06Covers_l1_h, [(2, spec_l06Covers_l1_x2)], fun n x kx => spec_l06Covers_l1_F k n x kx, k, by kernel_rfl, by kernel_rfl, fun x kx => by kernel_rfl, ?_, fun σ kx => rfl⟩
  rintro n ⟨⟨table0, ⟨⟩, a5, b6, ⟨⟩⟩, ⟨q_2, ⟨⟩⟩, ⟨⟩⟩ kx
  kernel_rfl
theorem spec_l06Covers_l0_ok (k : Nat) : LoopOK (mkEnv ti [] (lk []) pins0 pinB0) (spec_l06Covers_O k) (rdC (mkEnv ti [] (lk []) pins0 pinB0) [.tmp 2, .tmp 3] (.pr (.sl 41 (.sl 2 (.int .i64))) .bool)) ((loopsOf (codeOf Tryd.f33)).getD 0 .skip) (fun σ kx => spec_l06Covers_l0_h.get σ fun x => spec_l06Covers_l0_F k k x kx) := by
  refine ⟨spec_l06Covers_l0_h, [(0, spec_l06Covers_l0_x0)], fun n x kx => spec_l06Covers_l0_F k n x kx, k, by kernel_rfl, by kernel_rfl, fun x kx => by kernel_rfl, ?_, fun σ kx => rfl⟩
  rintro n ⟨⟨table0, ⟨⟩, a5, ⟨⟩⟩, ⟨q_1, ⟨⟩⟩, ⟨⟩⟩ kx
  kernel_rfl
theorem ok_spec_l06Covers (k : Nat) : FnOK Tryd.prog 33 (fe_spec_l06Covers k) := by
  refine closed_ok (tab := []) (l := []) ti_ok ti_ht mix (List.forall_mem_nil _) (List.forall_mem_nil _) ⟨⟨Tryd.f33, (codeOf Tryd.f33), [.tmp 2, .tmp 3], (spec_l06Covers_O k), by kernel_rfl, by kernel_rfl, by kernel_rfl, by kernel_rfl, rfl, by decide, ⟨by kernel_rfl, ?_, ?_⟩, ?_⟩⟩
  · refine loops_of (n := 3) (by kernel_rfl) fun i hi => ?_
    match i, hi with
    | 0, _ => exact loop_of (by kernel_rfl) (spec_l06Covers_l0_ok k)
    | 1, _ => exact loop_of (by kernel_rfl) (spec_l06Covers_l1_ok k)
    | 2, _ => exact loop_of (by kernel_rfl) (spec_l06Covers_l2_ok k)
    | n + 3, hi => omega
  · exact no_cuts (by kernel_rfl)
  · rintro table0
    kernel_rfl
/- 55 loop.example/g01005/spec.l00Same -/
def spec_l00Same_l0 (k : Nat) : Nat → (List Int) → (List Int) → Int → (Option Bool) → Option Bool
  | 0, _, _, _, _ => none
  | n + 1, a0, b1, i5, e_0 => (if (decide (i5 < (List.length a0 : Int))) = true then (if 0 ≤ i5 then (a0[i5.toNat]?).bind fun y_1 => (if 0 ≤ i5 then (b1[i5.toNat]?).bind fun y_2 => (if (!(decide (y_1 = y_2))) = true then some false else spec_l00Same_l0 k n a0 b1 (w_i64 (i5 + 1)) e_0) else none) else none) else e_0)
def spec_l00Same (k : Nat) (a0 : List Int) (b1 : List Int) : Option Bool := (if (!(decide ((List.length a0 : Int) = (List.length b1 : Int)))) = true then some false else spec_l00Same_l0 k k a0 b1 0 (some true))
def spec_l00Same_l0_h : Head := ⟨[(0, (.val (.sl 2 (.int .i64)))), (1, (.val (.sl 2 (.int .i64)))), (5, (.val (.int .i64)))], [], []⟩
def spec_l00Same_l0_x0 : Head := ⟨[], [], []⟩
def spec_l00Same_l0_F (k n : Nat) (x : spec_l00Same_l0_h.T) (kx : Nat → St → Option Bool) : Option Bool := spec_l00Same_l0 k n x.1.1 x.1.2.1 x.1.2.2.1 (kx 0 (spec_l00Same_l0_x0.fill ((), (), ())))
def spec_l00Same_O (k : Nat) : Oracles Bool := ⟨fun n => bif Nat.beq n 4 then some (fun σ kx => spec_l00Same_l0_h.get σ fun x => spec_l00Same_l0_F k k x kx) else none, fun _ => none⟩
def fe_spec_l00Same (k : Nat) : FE := ⟨(.pr (.sl 2 (.int .i64)) (.sl 2 (.int .i64))), 1, .bool, fun x => spec_l00Same k x.1 x.2⟩
theorem spec_l00Same_l0_ok (k : Nat) : LoopOK (mkEnv ti [] (lk []) pins0 pinB0) (spec_l00Same_O k) (rdC (mkEnv ti [] (lk []) pins0 pinB0) [.tmp 4] .bool) ((loopsOf (codeOf Tryd.f55)).getD 0 .skip) (fun σ kx => spec_l00Same_l0_h.get σ fun x => spec_l00Same_l0_F k k x kx) := by
  refine ⟨spec_l00Same_l0_h, [(0, spec_l00Same_l0_x0)], fun n x kx => spec_l00Same_l0_F k n x kx, k, by kernel_rfl, by kernel_rfl, fun x kx => by kernel_rfl, ?_, fun σ kx => rfl⟩
  rintro n ⟨⟨a0, b1, i5, ⟨⟩⟩, ⟨⟩, ⟨⟩⟩ kx
  kernel_rfl
theorem ok_spec_l00Same (k : Nat) : FnOK Tryd.prog 55 (fe_spec_l00Same k) := by
  refine closed_ok (tab := []) (l := []) ti_ok ti_ht mix (List.forall_mem_nil _) (List.forall_mem_nil _) ⟨⟨Tryd.f55, (codeOf Tryd.f55), [.tmp 4], (spec_l00Same_O k), by kernel_rfl, by kernel_rfl, by kernel_rfl, by kernel_rfl, rfl, by decide, ⟨by kernel_rfl, ?_, ?_⟩, ?_⟩⟩
  · refine loops_of (n := 1) (by kernel_rfl) fun i hi => ?_
    match i, hi with
    | 0, _ => exact loop_of (by kernel_rfl) (spec_l00Same_l0_ok k)
    | n + 1, hi => omega
  · exact no_cuts (by kernel_rfl)
  · rintro ⟨a0, b1⟩
    kernel_rfl
end
end Go.Proofs.YtpliblemabkikaaDoor.Ev
