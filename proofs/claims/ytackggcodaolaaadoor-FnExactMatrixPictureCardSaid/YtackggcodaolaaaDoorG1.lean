/- Functions of the program, as plain ones. No conditions. -/
import Derived.Test.YtackggcodaolaaaDoorG0
import Derived.KernelRfl
set_option linter.unusedVariables false
set_option maxRecDepth 100000
namespace Go.Proofs.YtackggcodaolaaaDoor.Ev
open Go.RowKit
noncomputable section
/- 26 loop.example/g01005/laws.szEdgeS -/
def laws_szEdgeS (a0 : List (Int × Int × Int)) (left1 : Int) : Option Int := (if (decide ((w_i64 (left1 - (List.length a0 : Int))) < 0)) = true then some (-1) else some (w_i64 (left1 - (List.length a0 : Int))))
def fe_laws_szEdgeS : FE := ⟨(.pr (.sl 102 (.st (.pr (.int .i64) (.pr (.int .i64) (.int .i64))))) (.int .i64)), 1, (.int .i64), fun x => laws_szEdgeS x.1 x.2⟩
theorem ok_laws_szEdgeS : FnOK Tryd.prog 26 (fe_laws_szEdgeS) := by
  refine closed_ok (tab := []) (l := []) ti_ok ti_ht mix (List.forall_mem_nil _) (List.forall_mem_nil _) ⟨⟨Tryd.f26, (codeOf Tryd.f26), [.tmp 4], (LOn Int), by kernel_rfl, by kernel_rfl, by kernel_rfl, by kernel_rfl, rfl, by decide, ⟨by kernel_rfl, ?_, ?_⟩, ?_⟩⟩
  · exact no_loops (by kernel_rfl)
  · exact no_cuts (by kernel_rfl)
  · rintro ⟨a0, left1⟩
    kernel_rfl
/- 6 loop.example/g01005/laws.szGraph -/
def laws_szGraph (a0 : Int × List (Int × Int × Int)) (left1 : Int) : Option Int := (laws_szEdgeS a0.2 left1).bind fun r_1 => (if (decide (r_1 < 0)) = true then some (-1) else some r_1)
def fe_laws_szGraph : FE := ⟨(.pr (.st (.pr (.int .i64) (.sl 102 (.st (.pr (.int .i64) (.pr (.int .i64) (.int .i64))))))) (.int .i64)), 1, (.int .i64), fun x => laws_szGraph x.1 x.2⟩
theorem ok_laws_szGraph : FnOK Tryd.prog 6 (fe_laws_szGraph) := by
  refine closed_ok (tab := [(26, fe_laws_szEdgeS)]) (l := []) ti_ok ti_ht mix (List.forall_mem_cons.2 ⟨ok_laws_szEdgeS, (List.forall_mem_nil _)⟩) (List.forall_mem_nil _) ⟨⟨Tryd.f6, (codeOf Tryd.f6), [.tmp 4], (LOn Int), by kernel_rfl, by kernel_rfl, by kernel_rfl, by kernel_rfl, rfl, by decide, ⟨by kernel_rfl, ?_, ?_⟩, ?_⟩⟩
  · exact no_loops (by kernel_rfl)
  · exact no_cuts (by kernel_rfl)
  · rintro ⟨a0, left1⟩
    kernel_rfl
/- 61 loop.example/g01005/laws.toEdge -/
def laws_toEdge (a0 : Int × Int × Int) : Option (Int × Int × Int) := some (a0.1, (a0.2.1, a0.2.2))
def fe_laws_toEdge : FE := ⟨(.st (.pr (.int .i64) (.pr (.int .i64) (.int .i64)))), 1, (.st (.pr (.int .i64) (.pr (.int .i64) (.int .i64)))), fun x => laws_toEdge x⟩
theorem ok_laws_toEdge : FnOK Tryd.prog 61 (fe_laws_toEdge) := by
  refine closed_ok (tab := []) (l := []) ti_ok ti_ht mix (List.forall_mem_nil _) (List.forall_mem_nil _) ⟨⟨Tryd.f61, (codeOf Tryd.f61), [.cell 2 99], (LOn (Int × Int × Int)), by kernel_rfl, by kernel_rfl, by kernel_rfl, by kernel_rfl, rfl, by decide, ⟨by kernel_rfl, ?_, ?_⟩, ?_⟩⟩
  · exact no_loops (by kernel_rfl)
  · exact no_cuts (by kernel_rfl)
  · rintro a0
    kernel_rfl
/- 31 loop.example/g01005/laws.toEdgeS -/
def laws_toEdgeS_l0 (k : Nat) : Nat → (List (Int × Int × Int)) → Int → (List (Int × Int × Int)) → ((List (Int × Int × Int)) → Option (List (Int × Int × Int))) → Option (List (Int × Int × Int))
  | 0, _, _, _, _ => none
  | n + 1, a0, i4, q_1, e_0 => (if (decide (i4 < (List.length a0 : Int))) = true then (if 0 ≤ i4 then (a0[i4.toNat]?).bind fun y_2 => (laws_toEdge y_2).bind fun r_3 => (if 0 ≤ i4 ∧ i4.toNat < List.length q_1 then (q_1[i4.toNat]?).bind fun y_4 => (q_1[i4.toNat]?).bind fun y_5 => laws_toEdgeS_l0 k n a0 (w_i64 (i4 + 1)) (q_1.set i4.toNat r_3) e_0 else none) else none) else e_0 q_1)
def laws_toEdgeS (k : Nat) (a0 : List (Int × Int × Int)) : Option (List (Int × Int × Int)) := (if 0 ≤ (List.length a0 : Int) ∧ (List.length a0 : Int) ≤ (List.length a0 : Int) ∧ (List.length a0 : Int) * 24 ≤ LIM then laws_toEdgeS_l0 k k a0 0 (List.replicate (List.length a0) (0, (0, 0))) (fun q_6 => some q_6) else none)
def laws_toEdgeS_l0_h : Head := ⟨[(0, (.val (.sl 102 (.st (.pr (.int .i64) (.pr (.int .i64) (.int .i64))))))), (3, (.ref 64000000 [])), (4, (.val (.int .i64)))], [(64000000, 99, (.st (.pr (.int .i64) (.pr (.int .i64) (.int .i64)))), false)], []⟩
def laws_toEdgeS_l0_x0 : Head := ⟨[(3, (.ref 64000000 []))], [(64000000, 99, (.st (.pr (.int .i64) (.pr (.int .i64) (.int .i64)))), false)], []⟩
def laws_toEdgeS_l0_F (k n : Nat) (x : laws_toEdgeS_l0_h.T) (kx : Nat → St → Option (List (Int × Int × Int))) : Option (List (Int × Int × Int)) := laws_toEdgeS_l0 k n x.1.1 x.1.2.2.1 x.2.1.1 (fun (q_6 : List (Int × Int × Int)) => kx 0 (laws_toEdgeS_l0_x0.fill (((), ()), (q_6, ()), ())))
def laws_toEdgeS_O (k : Nat) : Oracles (List (Int × Int × Int)) := ⟨fun n => bif Nat.beq n 3 then some (fun σ kx => laws_toEdgeS_l0_h.get σ fun x => laws_toEdgeS_l0_F k k x kx) else none, fun _ => none⟩
def fe_laws_toEdgeS (k : Nat) : FE := ⟨(.sl 102 (.st (.pr (.int .i64) (.pr (.int .i64) (.int .i64))))), 1, (.sl 99 (.st (.pr (.int .i64) (.pr (.int .i64) (.int .i64))))), fun x => laws_toEdgeS k x⟩
theorem laws_toEdgeS_l0_ok (k : Nat) : LoopOK (mkEnv ti [(61, fe_laws_toEdge)] (lk []) pins0 pinB0) (laws_toEdgeS_O k) (rdC (mkEnv ti [(61, fe_laws_toEdge)] (lk []) pins0 pinB0) [.tmp 2] (.sl 99 (.st (.pr (.int .i64) (.pr (.int .i64) (.int .i64)))))) ((loopsOf (codeOf Tryd.f31)).getD 0 .skip) (fun σ kx => laws_toEdgeS_l0_h.get σ fun x => laws_toEdgeS_l0_F k k x kx) := by
  refine ⟨laws_toEdgeS_l0_h, [(0, laws_toEdgeS_l0_x0)], fun n x kx => laws_toEdgeS_l0_F k n x kx, k, by kernel_rfl, by kernel_rfl, fun x kx => by kernel_rfl, ?_, fun σ kx => rfl⟩
  rintro n ⟨⟨a0, ⟨⟩, i4, ⟨⟩⟩, ⟨q_1, ⟨⟩⟩, ⟨⟩⟩ kx
  kernel_rfl
theorem ok_laws_toEdgeS (k : Nat) : FnOK Tryd.prog 31 (fe_laws_toEdgeS k) := by
  refine closed_ok (tab := [(61, fe_laws_toEdge)]) (l := []) ti_ok ti_ht mix (List.forall_mem_cons.2 ⟨ok_laws_toEdge, (List.forall_mem_nil _)⟩) (List.forall_mem_nil _) ⟨⟨Tryd.f31, (codeOf Tryd.f31), [.tmp 2], (laws_toEdgeS_O k), by kernel_rfl, by kernel_rfl, by kernel_rfl, by kernel_rfl, rfl, by decide, ⟨by kernel_rfl, ?_, ?_⟩, ?_⟩⟩
  · refine loops_of (n := 1) (by kernel_rfl) fun i hi => ?_
    match i, hi with
    | 0, _ => exact loop_of (by kernel_rfl) (laws_toEdgeS_l0_ok k)
    | n + 1, hi => omega
  · exact no_cuts (by kernel_rfl)
  · rintro a0
    kernel_rfl
/- 8 loop.example/g01005/laws.toGraph -/
def laws_toGraph (k : Nat) (a0 : Int × List (Int × Int × Int)) : Option (Int × List (Int × Int × Int)) := (laws_toEdgeS k a0.2).bind fun r_1 => some (a0.1, r_1)
def fe_laws_toGraph (k : Nat) : FE := ⟨(.st (.pr (.int .i64) (.sl 102 (.st (.pr (.int .i64) (.pr (.int .i64) (.int .i64))))))), 1, (.st (.pr (.int .i64) (.sl 99 (.st (.pr (.int .i64) (.pr (.int .i64) (.int .i64))))))), fun x => laws_toGraph k x⟩
theorem ok_laws_toGraph (k : Nat) : FnOK Tryd.prog 8 (fe_laws_toGraph k) := by
  refine closed_ok (tab := [(31, fe_laws_toEdgeS k)]) (l := []) ti_ok ti_ht mix (List.forall_mem_cons.2 ⟨ok_laws_toEdgeS k, (List.forall_mem_nil _)⟩) (List.forall_mem_nil _) ⟨⟨Tryd.f8, (codeOf Tryd.f8), [.cell 2 31], (LOn (Int × List (Int × Int × Int))), by kernel_rfl, by kernel_rfl, by kernel_rfl, by kernel_rfl, rfl, by decide, ⟨by kernel_rfl, ?_, ?_⟩, ?_⟩⟩
  · exact no_loops (by kernel_rfl)
  · exact no_cuts (by kernel_rfl)
  · rintro a0
    kernel_rfl
/- 59 loop.example/g01005/spec.l00In -/
def spec_l00In (n0 : Int) (low1 : Int) (high2 : Int) : Option Bool := (if (decide (low1 ≤ n0)) = true then some (decide (n0 ≤ high2)) else some false)
def fe_spec_l00In : FE := ⟨(.pr (.int .i64) (.pr (.int .i64) (.int .i64))), 1, .bool, fun x => spec_l00In x.1 x.2.1 x.2.2⟩
theorem ok_spec_l00In : FnOK Tryd.prog 59 (fe_spec_l00In) := by
  refine closed_ok (tab := []) (l := []) ti_ok ti_ht mix (List.forall_mem_nil _) (List.forall_mem_nil _) ⟨⟨Tryd.f59, (codeOf Tryd.f59), [.tmp 6], (LOn Bool), by kernel_rfl, by kernel_rfl, by kernel_rfl, by kernel_rfl, rfl, by decide, ⟨by kernel_rfl, ?_, ?_⟩, ?_⟩⟩
  · exact no_loops (by kernel_rfl)
  · exact no_cuts (by kernel_rfl)
  · rintro ⟨n0, low1, high2⟩
    kernel_rfl
/- 27 loop.example/g01005/spec.l16Ok -/
def spec_l16Ok_l0 (k : Nat) : Nat → (Int × List (Int × Int × Int)) → Int → ((Int × List (Int × Int × Int)) → Option Bool) → Option Bool
  | 0, _, _, _ => none
  | n + 1, g0, i3, e_0 => (if (decide (i3 < (List.length g0.2 : Int))) = true then (if 0 ≤ i3 then (g0.2[i3.toNat]?).bind fun y_2 => (spec_l00In y_2.2.1 0 (w_i64 (g0.1 - 1))).bind fun r_3 => (if (!r_3) = true then some false else (spec_l00In y_2.1 0 (w_i64 (y_2.2.1 - 1))).bind fun r_4 => (if (!r_4) = true then some false else (spec_l00In y_2.2.2 1 9).bind fun r_5 => (if (!r_5) = true then some false else (if (decide (0 < i3)) = true then (if 0 ≤ (w_i64 (i3 - 1)) then (g0.2[(w_i64 (i3 - 1)).toNat]?).bind fun y_6 => (if (decide (y_2.1 < y_6.1)) = true then some false else (if 0 ≤ (w_i64 (i3 - 1)) then (g0.2[(w_i64 (i3 - 1)).toNat]?).bind fun y_7 => (if (decide (y_7.1 = y_2.1)) = true then (if 0 ≤ (w_i64 (i3 - 1)) then (g0.2[(w_i64 (i3 - 1)).toNat]?).bind fun y_8 => (if (decide (y_2.2.1 ≤ y_8.2.1)) = true then some false else spec_l16Ok_l0 k n g0 (w_i64 (i3 + 1)) e_0) else none) else spec_l16Ok_l0 k n g0 (w_i64 (i3 + 1)) e_0) else none)) else none) else spec_l16Ok_l0 k n g0 (w_i64 (i3 + 1)) e_0)))) else none) else e_0 g0)
def spec_l16Ok (k : Nat) (g0 : Int × List (Int × Int × Int)) : Option Bool := (spec_l00In g0.1 1 12).bind fun r_1 => (if (!r_1) = true then some false else spec_l16Ok_l0 k k g0 0 (fun g_9 => some (decide ((List.length g_9.2 : Int) ≤ 24))))
def spec_l16Ok_l0_h : Head := ⟨[(0, (.val (.ptr (.st (.pr (.int .i64) (.sl 99 (.st (.pr (.int .i64) (.pr (.int .i64) (.int .i64)))))))))), (3, (.val (.int .i64)))], [], []⟩
def spec_l16Ok_l0_x0 : Head := ⟨[(0, (.val (.ptr (.st (.pr (.int .i64) (.sl 99 (.st (.pr (.int .i64) (.pr (.int .i64) (.int .i64))))))))))], [], []⟩
def spec_l16Ok_l0_F (k n : Nat) (x : spec_l16Ok_l0_h.T) (kx : Nat → St → Option Bool) : Option Bool := spec_l16Ok_l0 k n x.1.1 x.1.2.1 (fun (g0 : Int × List (Int × Int × Int)) => kx 0 (spec_l16Ok_l0_x0.fill ((g0, ()), (), ())))
def spec_l16Ok_O (k : Nat) : Oracles Bool := ⟨fun n => bif Nat.beq n 4 then some (fun σ kx => spec_l16Ok_l0_h.get σ fun x => spec_l16Ok_l0_F k k x kx) else none, fun _ => none⟩
def fe_spec_l16Ok (k : Nat) : FE := ⟨(.ptr (.st (.pr (.int .i64) (.sl 99 (.st (.pr (.int .i64) (.pr (.int .i64) (.int .i64)))))))), 1, .bool, fun x => spec_l16Ok k x⟩
theorem spec_l16Ok_l0_ok (k : Nat) : LoopOK (mkEnv ti [(59, fe_spec_l00In)] (lk []) pins0 pinB0) (spec_l16Ok_O k) (rdC (mkEnv ti [(59, fe_spec_l00In)] (lk []) pins0 pinB0) [.tmp 2] .bool) ((loopsOf (codeOf Tryd.f27)).getD 0 .skip) (fun σ kx => spec_l16Ok_l0_h.get σ fun x => spec_l16Ok_l0_F k k x kx) := by
  refine ⟨spec_l16Ok_l0_h, [(0, spec_l16Ok_l0_x0)], fun n x kx => spec_l16Ok_l0_F k n x kx, k, by kernel_rfl, by kernel_rfl, fun x kx => by kernel_rfl, ?_, fun σ kx => rfl⟩
  rintro n ⟨⟨g0, i3, ⟨⟩⟩, ⟨⟩, ⟨⟩⟩ kx
  kernel_rfl
theorem ok_spec_l16Ok (k : Nat) : FnOK Tryd.prog 27 (fe_spec_l16Ok k) := by
  refine closed_ok (tab := [(59, fe_spec_l00In)]) (l := []) ti_ok ti_ht mix (List.forall_mem_cons.2 ⟨ok_spec_l00In, (List.forall_mem_nil _)⟩) (List.forall_mem_nil _) ⟨⟨Tryd.f27, (codeOf Tryd.f27), [.tmp 2], (spec_l16Ok_O k), by kernel_rfl, by kernel_rfl, by kernel_rfl, by kernel_rfl, rfl, by decide, ⟨by kernel_rfl, ?_, ?_⟩, ?_⟩⟩
  · refine loops_of (n := 1) (by kernel_rfl) fun i hi => ?_
    match i, hi with
    | 0, _ => exact loop_of (by kernel_rfl) (spec_l16Ok_l0_ok k)
    | n + 1, hi => omega
  · exact no_cuts (by kernel_rfl)
  · rintro g0
    kernel_rfl
/- 28 loop.example/g01005/spec.l16Rows -/
def spec_l16Rows_l0 (k : Nat) : Nat → (Int × List (Int × Int × Int)) → Int → (List (List Int)) → ((Int × List (Int × Int × Int)) → (List (List Int)) → Option (List (List Int))) → Option (List (List Int))
  | 0, _, _, _, _ => none
  | n + 1, g0, i4, q_1, e_0 => (if (decide (i4 < g0.1)) = true then (if 0 ≤ g0.1 ∧ g0.1 ≤ g0.1 ∧ g0.1 * 8 ≤ LIM then (if (q_1.length + [(List.replicate g0.1.toNat 0)].length) * 24 ≤ LIM then spec_l16Rows_l0 k n g0 (w_i64 (i4 + 1)) (q_1 ++ [(List.replicate g0.1.toNat 0)]) e_0 else none) else none) else e_0 g0 q_1)
def spec_l16Rows_l1 (k : Nat) : Nat → (Int × List (Int × Int × Int)) → Int → (List (List Int)) → ((List (List Int)) → Option (List (List Int))) → Option (List (List Int))
  | 0, _, _, _, _ => none
  | n + 1, g0, i5, q_4, e_2 => (if (decide (i5 < (List.length g0.2 : Int))) = true then (if 0 ≤ i5 then (g0.2[i5.toNat]?).bind fun y_5 => (if 0 ≤ y_5.1 ∧ y_5.1.toNat < List.length q_4 then (q_4[y_5.1.toNat]?).bind fun y_6 => (q_4[y_5.1.toNat]?).bind fun y_7 => (if 0 ≤ y_5.1 ∧ y_5.1.toNat < List.length y_7 then (q_4[y_5.1.toNat]?).bind fun y_8 => (y_8[y_5.1.toNat]?).bind fun y_9 => (q_4[y_5.1.toNat]?).bind fun y_10 => (if 0 ≤ y_5.1 ∧ y_5.1.toNat < List.length y_10 then (q_4[y_5.1.toNat]?).bind fun y_11 => (y_11[y_5.1.toNat]?).bind fun y_12 => (q_4[y_5.1.toNat]?).bind fun y_13 => (y_13[y_5.1.toNat]?).bind fun y_14 => (if 0 ≤ y_5.2.1 ∧ y_5.2.1.toNat < List.length (q_4.set y_5.1.toNat (y_13.set y_5.1.toNat (w_i64 (y_9 + y_5.2.2)))) then ((q_4.set y_5.1.toNat (y_13.set y_5.1.toNat (w_i64 (y_9 + y_5.2.2))))[y_5.2.1.toNat]?).bind fun y_15 => ((q_4.set y_5.1.toNat (y_13.set y_5.1.toNat (w_i64 (y_9 + y_5.2.2))))[y_5.2.1.toNat]?).bind fun y_16 => (if 0 ≤ y_5.2.1 ∧ y_5.2.1.toNat < List.length y_16 then ((q_4.set y_5.1.toNat (y_13.set y_5.1.toNat (w_i64 (y_9 + y_5.2.2))))[y_5.2.1.toNat]?).bind fun y_17 => (y_17[y_5.2.1.toNat]?).bind fun y_18 => ((q_4.set y_5.1.toNat (y_13.set y_5.1.toNat (w_i64 (y_9 + y_5.2.2))))[y_5.2.1.toNat]?).bind fun y_19 => (if 0 ≤ y_5.2.1 ∧ y_5.2.1.toNat < List.length y_19 then ((q_4.set y_5.1.toNat (y_13.set y_5.1.toNat (w_i64 (y_9 + y_5.2.2))))[y_5.2.1.toNat]?).bind fun y_20 => (y_20[y_5.2.1.toNat]?).bind fun y_21 => ((q_4.set y_5.1.toNat (y_13.set y_5.1.toNat (w_i64 (y_9 + y_5.2.2))))[y_5.2.1.toNat]?).bind fun y_22 => (y_22[y_5.2.1.toNat]?).bind fun y_23 => (if 0 ≤ y_5.1 ∧ y_5.1.toNat < List.length ((q_4.set y_5.1.toNat (y_13.set y_5.1.toNat (w_i64 (y_9 + y_5.2.2)))).set y_5.2.1.toNat (y_22.set y_5.2.1.toNat (w_i64 (y_18 + y_5.2.2)))) then (((q_4.set y_5.1.toNat (y_13.set y_5.1.toNat (w_i64 (y_9 + y_5.2.2)))).set y_5.2.1.toNat (y_22.set y_5.2.1.toNat (w_i64 (y_18 + y_5.2.2))))[y_5.1.toNat]?).bind fun y_24 => (((q_4.set y_5.1.toNat (y_13.set y_5.1.toNat (w_i64 (y_9 + y_5.2.2)))).set y_5.2.1.toNat (y_22.set y_5.2.1.toNat (w_i64 (y_18 + y_5.2.2))))[y_5.1.toNat]?).bind fun y_25 => (if 0 ≤ y_5.2.1 ∧ y_5.2.1.toNat < List.length y_25 then (((q_4.set y_5.1.toNat (y_13.set y_5.1.toNat (w_i64 (y_9 + y_5.2.2)))).set y_5.2.1.toNat (y_22.set y_5.2.1.toNat (w_i64 (y_18 + y_5.2.2))))[y_5.1.toNat]?).bind fun y_26 => (y_26[y_5.2.1.toNat]?).bind fun y_27 => (((q_4.set y_5.1.toNat (y_13.set y_5.1.toNat (w_i64 (y_9 + y_5.2.2)))).set y_5.2.1.toNat (y_22.set y_5.2.1.toNat (w_i64 (y_18 + y_5.2.2))))[y_5.1.toNat]?).bind fun y_28 => (if 0 ≤ y_5.2.1 ∧ y_5.2.1.toNat < List.length y_28 then (((q_4.set y_5.1.toNat (y_13.set y_5.1.toNat (w_i64 (y_9 + y_5.2.2)))).set y_5.2.1.toNat (y_22.set y_5.2.1.toNat (w_i64 (y_18 + y_5.2.2))))[y_5.1.toNat]?).bind fun y_29 => (y_29[y_5.2.1.toNat]?).bind fun y_30 => (((q_4.set y_5.1.toNat (y_13.set y_5.1.toNat (w_i64 (y_9 + y_5.2.2)))).set y_5.2.1.toNat (y_22.set y_5.2.1.toNat (w_i64 (y_18 + y_5.2.2))))[y_5.1.toNat]?).bind fun y_31 => (y_31[y_5.2.1.toNat]?).bind fun y_32 => (if 0 ≤ y_5.2.1 ∧ y_5.2.1.toNat < List.length (((q_4.set y_5.1.toNat (y_13.set y_5.1.toNat (w_i64 (y_9 + y_5.2.2)))).set y_5.2.1.toNat (y_22.set y_5.2.1.toNat (w_i64 (y_18 + y_5.2.2)))).set y_5.1.toNat (y_31.set y_5.2.1.toNat (w_i64 (y_27 - y_5.2.2)))) then ((((q_4.set y_5.1.toNat (y_13.set y_5.1.toNat (w_i64 (y_9 + y_5.2.2)))).set y_5.2.1.toNat (y_22.set y_5.2.1.toNat (w_i64 (y_18 + y_5.2.2)))).set y_5.1.toNat (y_31.set y_5.2.1.toNat (w_i64 (y_27 - y_5.2.2))))[y_5.2.1.toNat]?).bind fun y_33 => ((((q_4.set y_5.1.toNat (y_13.set y_5.1.toNat (w_i64 (y_9 + y_5.2.2)))).set y_5.2.1.toNat (y_22.set y_5.2.1.toNat (w_i64 (y_18 + y_5.2.2)))).set y_5.1.toNat (y_31.set y_5.2.1.toNat (w_i64 (y_27 - y_5.2.2))))[y_5.2.1.toNat]?).bind fun y_34 => (if 0 ≤ y_5.1 ∧ y_5.1.toNat < List.length y_34 then ((((q_4.set y_5.1.toNat (y_13.set y_5.1.toNat (w_i64 (y_9 + y_5.2.2)))).set y_5.2.1.toNat (y_22.set y_5.2.1.toNat (w_i64 (y_18 + y_5.2.2)))).set y_5.1.toNat (y_31.set y_5.2.1.toNat (w_i64 (y_27 - y_5.2.2))))[y_5.2.1.toNat]?).bind fun y_35 => (y_35[y_5.1.toNat]?).bind fun y_36 => ((((q_4.set y_5.1.toNat (y_13.set y_5.1.toNat (w_i64 (y_9 + y_5.2.2)))).set y_5.2.1.toNat (y_22.set y_5.2.1.toNat (w_i64 (y_18 + y_5.2.2)))).set y_5.1.toNat (y_31.set y_5.2.1.toNat (w_i64 (y_27 - y_5.2.2))))[y_5.2.1.toNat]?).bind fun y_37 => (if 0 ≤ y_5.1 ∧ y_5.1.toNat < List.length y_37 then ((((q_4.set y_5.1.toNat (y_13.set y_5.1.toNat (w_i64 (y_9 + y_5.2.2)))).set y_5.2.1.toNat (y_22.set y_5.2.1.toNat (w_i64 (y_18 + y_5.2.2)))).set y_5.1.toNat (y_31.set y_5.2.1.toNat (w_i64 (y_27 - y_5.2.2))))[y_5.2.1.toNat]?).bind fun y_38 => (y_38[y_5.1.toNat]?).bind fun y_39 => ((((q_4.set y_5.1.toNat (y_13.set y_5.1.toNat (w_i64 (y_9 + y_5.2.2)))).set y_5.2.1.toNat (y_22.set y_5.2.1.toNat (w_i64 (y_18 + y_5.2.2)))).set y_5.1.toNat (y_31.set y_5.2.1.toNat (w_i64 (y_27 - y_5.2.2))))[y_5.2.1.toNat]?).bind fun y_40 => (y_40[y_5.1.toNat]?).bind fun y_41 => spec_l16Rows_l1 k n g0 (w_i64 (i5 + 1)) ((((q_4.set y_5.1.toNat (y_13.set y_5.1.toNat (w_i64 (y_9 + y_5.2.2)))).set y_5.2.1.toNat (y_22.set y_5.2.1.toNat (w_i64 (y_18 + y_5.2.2)))).set y_5.1.toNat (y_31.set y_5.2.1.toNat (w_i64 (y_27 - y_5.2.2)))).set y_5.2.1.toNat (y_40.set y_5.1.toNat (w_i64 (y_36 - y_5.2.2)))) e_2 else none) else none) else none) else none) else none) else none) else none) else none) else none) else none) else none) else none) else none) else e_2 q_4)
def spec_l16Rows (k : Nat) (g0 : Int × List (Int × Int × Int)) : Option (List (List Int)) := spec_l16Rows_l0 k k g0 0 [] (fun g_2 q_3 => spec_l16Rows_l1 k k g_2 0 q_3 (fun q_42 => some q_42))
def spec_l16Rows_l0_h : Head := ⟨[(0, (.val (.ptr (.st (.pr (.int .i64) (.sl 99 (.st (.pr (.int .i64) (.pr (.int .i64) (.int .i64)))))))))), (3, (.ref 64000000 [])), (4, (.val (.int .i64)))], [(64000000, 38, (.sl 2 (.int .i64)), false)], []⟩
def spec_l16Rows_l0_x0 : Head := ⟨[(0, (.val (.ptr (.st (.pr (.int .i64) (.sl 99 (.st (.pr (.int .i64) (.pr (.int .i64) (.int .i64)))))))))), (3, (.ref 64000000 []))], [(64000000, 38, (.sl 2 (.int .i64)), false)], []⟩
def spec_l16Rows_l0_F (k n : Nat) (x : spec_l16Rows_l0_h.T) (kx : Nat → St → Option (List (List Int))) : Option (List (List Int)) := spec_l16Rows_l0 k n x.1.1 x.1.2.2.1 x.2.1.1 (fun (g0 : Int × List (Int × Int × Int)) (q_2 : List (List Int)) => kx 0 (spec_l16Rows_l0_x0.fill ((g0, (), ()), (q_2, ()), ())))
def spec_l16Rows_l1_h : Head := ⟨[(0, (.val (.ptr (.st (.pr (.int .i64) (.sl 99 (.st (.pr (.int .i64) (.pr (.int .i64) (.int .i64)))))))))), (3, (.ref 64000000 [])), (5, (.val (.int .i64)))], [(64000000, 38, (.sl 2 (.int .i64)), false)], []⟩
def spec_l16Rows_l1_x2 : Head := ⟨[(3, (.ref 64000000 []))], [(64000000, 38, (.sl 2 (.int .i64)), false)], []⟩
def spec_l16Rows_l1_F (k n : Nat) (x : spec_l16Rows_l1_h.T) (kx : Nat → St → Option (List (List Int))) : Option (List (List Int)) := spec_l16Rows_l1 k n x.1.1 x.1.2.2.1 x.2.1.1 (fun (q_42 : List (List Int)) => kx 2 (spec_l16Rows_l1_x2.fill (((), ()), (q_42, ()), ())))
def spec_l16Rows_O (k : Nat) : Oracles (List (List Int)) := ⟨fun n => bif Nat.beq n 3 then some (fun σ kx => spec_l16Rows_l0_h.get σ fun x => spec_l16Rows_l0_F k k x kx) else bif Nat.beq n 7 then some (fun σ kx => spec_l16Rows_l1_h.get σ fun x => spec_l16Rows_l1_F k k x kx) else none, fun _ => none⟩
def fe_spec_l16Rows (k : Nat) : FE := ⟨(.ptr (.st (.pr (.int .i64) (.sl 99 (.st (.pr (.int .i64) (.pr (.int .i64) (.int .i64)))))))), 1, (.sl 38 (.sl 2 (.int .i64))), fun x => spec_l16Rows k x⟩
theorem spec_l16Rows_l0_ok (k : Nat) : LoopOK (mkEnv ti [] (lk []) pins0 pinB0) (spec_l16Rows_O k) (rdC (mkEnv ti [] (lk []) pins0 pinB0) [.tmp 2] (.sl 38 (.sl 2 (.int .i64)))) ((loopsOf (codeOf Tryd.f28)).getD 0 .skip) (fun σ kx => spec_l16Rows_l0_h.get σ fun x => spec_l16Rows_l0_F k k x kx) := by
  refine ⟨spec_l16Rows_l0_h, [(0, spec_l16Rows_l0_x0)], fun n x kx => spec_l16Rows_l0_F k n x kx, k, by kernel_rfl, by kernel_rfl, fun x kx => by kernel_rfl, ?_, fun σ kx => rfl⟩
  rintro n ⟨⟨g0, ⟨⟩, i4, ⟨⟩⟩, ⟨q_1, ⟨⟩⟩, ⟨⟩⟩ kx
  kernel_rfl
theorem spec_l16Rows_l1_ok (k : Nat) : LoopOK (mkEnv ti [] (lk []) pins0 pinB0) (spec_l16Rows_O k) (rdC (mkEnv ti [] (lk []) pins0 pinB0) [.tmp 2] (.sl 38 (.sl 2 (.int .i64)))) ((loopsOf (codeOf Tryd.f28)).getD 1 .skip) (fun σ kx => spec_l16Rows_l1_h.get σ fun x => spec_l16Rows_l1_F k k x kx) := by
  refine ⟨spec_l16Rows_l1_h, [(2, spec_l16Rows_l1_x2)], fun n x kx => spec_l16Rows_l1_F k n x kx, k, by kernel_rfl, by kernel_rfl, fun x kx => by kernel_rfl, ?_, fun σ kx => rfl⟩
  rintro n ⟨⟨g0, ⟨⟩, i5, ⟨⟩⟩, ⟨q_4, ⟨⟩⟩, ⟨⟩⟩ kx
  kernel_rfl
theorem ok_spec_l16Rows (k : Nat) : FnOK Tryd.prog 28 (fe_spec_l16Rows k) := by
  refine closed_ok (tab := []) (l := []) ti_ok ti_ht mix (List.forall_mem_nil _) (List.forall_mem_nil _) ⟨⟨Tryd.f28, (codeOf Tryd.f28), [.tmp 2], (spec_l16Rows_O k), by kernel_rfl, by kernel_rfl, by kernel_rfl, by kernel_rfl, rfl, by decide, ⟨by kernel_rfl, ?_, ?_⟩, ?_⟩⟩
  · refine loops_of (n := 2) (by kernel_rfl) fun i hi => ?_
    match i, hi with
    | 0, _ => exact loop_of (by kernel_rfl) (spec_l16Rows_l0_ok k)
    | 1, _ => exact loop_of (by kernel_rfl) (spec_l16Rows_l1_ok k)
    | n + 2, hi => omega
  · exact no_cuts (by kernel_rfl)
  · rintro g0
    kernel_rfl
/- 29 loop.example/g01005/spec.l01Dec -/
def spec_l01Dec_l0 (k : Nat) : Nat → Int → Int → (List Int) → (Int → (List Int) → Option (List UInt8)) → Option (List UInt8)
  | 0, _, _, _, _ => none
  | n + 1, n0, m4, q_1, e_0 => (if (!(decide (m4 = 0))) = true then (if (decide ((Int.tmod m4 10) < 0)) = true then (if (q_1.length + [(w_u8 ((w_i64 (48 + (w_i64 (0 - (Int.tmod m4 10)))))))].length) * 1 ≤ LIM then spec_l01Dec_l0 k n n0 (w_i64 (Int.tdiv m4 10)) (q_1 ++ [(w_u8 ((w_i64 (48 + (w_i64 (0 - (Int.tmod m4 10)))))))]) e_0 else none) else (if (q_1.length + [(w_u8 ((w_i64 (48 + (Int.tmod m4 10)))))].length) * 1 ≤ LIM then spec_l01Dec_l0 k n n0 (w_i64 (Int.tdiv m4 10)) (q_1 ++ [(w_u8 ((w_i64 (48 + (Int.tmod m4 10)))))]) e_0 else none)) else e_0 n0 q_1)
def spec_l01Dec_l1 (k : Nat) : Nat → Int → (List Int) → (List Int) → ((List Int) → Option (List UInt8)) → Option (List UInt8)
  | 0, _, _, _, _ => none
  | n + 1, i7, q_4, q_5, e_2 => (if (decide (0 ≤ i7)) = true then (if 0 ≤ i7 ∧ i7.toNat < List.length q_4 then (q_4[i7.toNat]?).bind fun y_6 => (if (q_5.length + [y_6].length) * 1 ≤ LIM then spec_l01Dec_l1 k n (w_i64 (i7 - 1)) q_4 (q_5 ++ [y_6]) e_2 else none) else none) else e_2 q_5)
def spec_l01Dec (k : Nat) (n0 : Int) : Option (List UInt8) := (if (decide (n0 = 0)) = true then some [48] else spec_l01Dec_l0 k k n0 n0 [] (fun n_2 q_3 => (if (decide (n_2 < 0)) = true then (if (q_3.length + [45].length) * 1 ≤ LIM then spec_l01Dec_l1 k k (w_i64 ((List.length (q_3 ++ [45]) : Int) - 1)) (q_3 ++ [45]) [] (fun q_7 => some (to_S q_7)) else none) else spec_l01Dec_l1 k k (w_i64 ((List.length q_3 : Int) - 1)) q_3 [] (fun q_8 => some (to_S q_8)))))
def spec_l01Dec_l0_h : Head := ⟨[(0, (.val (.int .i64))), (3, (.ref 64000000 [])), (4, (.val (.int .i64)))], [(64000000, 5, (.int .u8), false)], []⟩
def spec_l01Dec_l0_x0 : Head := ⟨[(0, (.val (.int .i64))), (3, (.ref 64000000 []))], [(64000000, 5, (.int .u8), false)], []⟩
def spec_l01Dec_l0_F (k n : Nat) (x : spec_l01Dec_l0_h.T) (kx : Nat → St → Option (List UInt8)) : Option (List UInt8) := spec_l01Dec_l0 k n x.1.1 x.1.2.2.1 x.2.1.1 (fun (n0 : Int) (q_2 : List Int) => kx 0 (spec_l01Dec_l0_x0.fill ((n0, (), ()), (q_2, ()), ())))
def spec_l01Dec_l1_h : Head := ⟨[(3, (.ref 64000000 [])), (6, (.ref 64000001 [])), (7, (.val (.int .i64)))], [(64000000, 5, (.int .u8), false), (64000001, 5, (.int .u8), false)], []⟩
def spec_l01Dec_l1_x2 : Head := ⟨[(6, (.ref 64000000 []))], [(64000000, 5, (.int .u8), false)], []⟩
def spec_l01Dec_l1_F (k n : Nat) (x : spec_l01Dec_l1_h.T) (kx : Nat → St → Option (List UInt8)) : Option (List UInt8) := spec_l01Dec_l1 k n x.1.2.2.1 x.2.1.1 x.2.1.2.1 (fun (q_7 : List Int) => kx 2 (spec_l01Dec_l1_x2.fill (((), ()), (q_7, ()), ())))
def spec_l01Dec_O (k : Nat) : Oracles (List UInt8) := ⟨fun n => bif Nat.beq n 5 then some (fun σ kx => spec_l01Dec_l0_h.get σ fun x => spec_l01Dec_l0_F k k x kx) else bif Nat.beq n 15 then some (fun σ kx => spec_l01Dec_l1_h.get σ fun x => spec_l01Dec_l1_F k k x kx) else none, fun _ => none⟩
def fe_spec_l01Dec (k : Nat) : FE := ⟨(.int .i64), 1, .str, fun x => spec_l01Dec k x⟩
theorem spec_l01Dec_l0_ok (k : Nat) : LoopOK (mkEnv ti [] (lk []) pins0 pinB0) (spec_l01Dec_O k) (rdC (mkEnv ti [] (lk []) pins0 pinB0) [.tmp 2] .str) ((loopsOf (codeOf Tryd.f29)).getD 0 .skip) (fun σ kx => spec_l01Dec_l0_h.get σ fun x => spec_l01Dec_l0_F k k x kx) := by
  refine ⟨spec_l01Dec_l0_h, [(0, spec_l01Dec_l0_x0)], fun n x kx => spec_l01Dec_l0_F k n x kx, k, by kernel_rfl, by kernel_rfl, fun x kx => by kernel_rfl, ?_, fun σ kx => rfl⟩
  rintro n ⟨⟨n0, ⟨⟩, m4, ⟨⟩⟩, ⟨q_1, ⟨⟩⟩, ⟨⟩⟩ kx
  kernel_rfl
theorem spec_l01Dec_l1_ok (k : Nat) : LoopOK (mkEnv ti [] (lk []) pins0 pinB0) (spec_l01Dec_O k) (rdC (mkEnv ti [] (lk []) pins0 pinB0) [.tmp 2] .str) ((loopsOf (codeOf Tryd.f29)).getD 1 .skip) (fun σ kx => spec_l01Dec_l1_h.get σ fun x => spec_l01Dec_l1_F k k x kx) := by
  refine ⟨spec_l01Dec_l1_h, [(2, spec_l01Dec_l1_x2)], fun n x kx => spec_l01Dec_l1_F k n x kx, k, by kernel_rfl, by kernel_rfl, fun x kx => by kernel_rfl, ?_, fun σ kx => rfl⟩
  rintro n ⟨⟨⟨⟩, ⟨⟩, i7, ⟨⟩⟩, ⟨q_4, q_5, ⟨⟩⟩, ⟨⟩⟩ kx
  kernel_rfl
theorem ok_spec_l01Dec (k : Nat) : FnOK Tryd.prog 29 (fe_spec_l01Dec k) := by
  refine closed_ok (tab := []) (l := []) ti_ok ti_ht mix (List.forall_mem_nil _) (List.forall_mem_nil _) ⟨⟨Tryd.f29, (codeOf Tryd.f29), [.tmp 2], (spec_l01Dec_O k), by kernel_rfl, by kernel_rfl, by kernel_rfl, by kernel_rfl, rfl, by decide, ⟨by kernel_rfl, ?_, ?_⟩, ?_⟩⟩
  · refine loops_of (n := 2) (by kernel_rfl) fun i hi => ?_
    match i, hi with
    | 0, _ => exact loop_of (by kernel_rfl) (spec_l01Dec_l0_ok k)
    | 1, _ => exact loop_of (by kernel_rfl) (spec_l01Dec_l1_ok k)
    | n + 2, hi => omega
  · exact no_cuts (by kernel_rfl)
  · rintro n0
    kernel_rfl
/- 60 loop.example/g01005/spec.l30Ok -/
def spec_l30Ok_l1 (k : Nat) : Nat → (List (List UInt8)) → Int → Int → ((List (List UInt8)) → Int → Option Bool) → Option Bool
  | 0, _, _, _, _ => none
  | n + 1, lines0, i3, k4, e_2 => (if 0 ≤ i3 then (lines0[i3.toNat]?).bind fun y_4 => (if (decide (k4 < (List.length y_4 : Int))) = true then (if 0 ≤ i3 then (lines0[i3.toNat]?).bind fun y_5 => (if 0 ≤ k4 then (y_5[k4.toNat]?).bind fun b_6 => (if (decide ((z_u8 b_6) < 32)) = true then some false else (if 0 ≤ i3 then (lines0[i3.toNat]?).bind fun y_7 => (if 0 ≤ k4 then (y_7[k4.toNat]?).bind fun b_8 => (if (decide (126 < (z_u8 b_8))) = true then some false else spec_l30Ok_l1 k n lines0 i3 (w_i64 (k4 + 1)) e_2) else none) else none)) else none) else none) else e_2 lines0 i3) else none)
def spec_l30Ok_l0 (k : Nat) : Nat → (List (List UInt8)) → Int → ((List (List UInt8)) → Option Bool) → Option Bool
  | 0, _, _, _ => none
  | n + 1, lines0, i3, e_0 => (if (decide (i3 < (List.length lines0 : Int))) = true then (if 0 ≤ i3 then (lines0[i3.toNat]?).bind fun y_1 => (lines0[0]?).bind fun y_2 => (if (!(decide ((List.length y_1 : Int) = (List.length y_2 : Int)))) = true then some false else (if 0 ≤ i3 then (lines0[i3.toNat]?).bind fun y_3 => (if (decide (80 < (List.length y_3 : Int))) = true then some false else spec_l30Ok_l1 k k lines0 i3 0 (fun lines_4 i_5 => spec_l30Ok_l0 k n lines_4 (w_i64 (i_5 + 1)) e_0)) else none)) else none) else e_0 lines0)
def spec_l30Ok (k : Nat) (lines0 : List (List UInt8)) : Option Bool := spec_l30Ok_l0 k k lines0 0 (fun lines_6 => some (decide ((List.length lines_6 : Int) ≤ 60)))
def spec_l30Ok_l1_h : Head := ⟨[(0, (.val (.sl 9 .str))), (3, (.val (.int .i64))), (4, (.val (.int .i64)))], [], []⟩
def spec_l30Ok_l1_x2 : Head := ⟨[(0, (.val (.sl 9 .str))), (3, (.val (.int .i64)))], [], []⟩
def spec_l30Ok_l1_F (k n : Nat) (x : spec_l30Ok_l1_h.T) (kx : Nat → St → Option Bool) : Option Bool := spec_l30Ok_l1 k n x.1.1 x.1.2.1 x.1.2.2.1 (fun (lines0 : List (List UInt8)) (i3 : Int) => kx 2 (spec_l30Ok_l1_x2.fill ((lines0, i3, ()), (), ())))
def spec_l30Ok_l0_h : Head := ⟨[(0, (.val (.sl 9 .str))), (3, (.val (.int .i64)))], [], []⟩
def spec_l30Ok_l0_x0 : Head := ⟨[(0, (.val (.sl 9 .str)))], [], []⟩
def spec_l30Ok_l0_F (k n : Nat) (x : spec_l30Ok_l0_h.T) (kx : Nat → St → Option Bool) : Option Bool := spec_l30Ok_l0 k n x.1.1 x.1.2.1 (fun (lines0 : List (List UInt8)) => kx 0 (spec_l30Ok_l0_x0.fill ((lines0, ()), (), ())))
def spec_l30Ok_O (k : Nat) : Oracles Bool := ⟨fun n => bif Nat.beq n 7 then some (fun σ kx => spec_l30Ok_l1_h.get σ fun x => spec_l30Ok_l1_F k k x kx) else bif Nat.beq n 2 then some (fun σ kx => spec_l30Ok_l0_h.get σ fun x => spec_l30Ok_l0_F k k x kx) else none, fun _ => none⟩
def fe_spec_l30Ok (k : Nat) : FE := ⟨(.sl 9 .str), 1, .bool, fun x => spec_l30Ok k x⟩
theorem spec_l30Ok_l1_ok (k : Nat) : LoopOK (mkEnv ti [] (lk []) pins0 pinB0) (spec_l30Ok_O k) (rdC (mkEnv ti [] (lk []) pins0 pinB0) [.tmp 2] .bool) ((loopsOf (codeOf Tryd.f60)).getD 1 .skip) (fun σ kx => spec_l30Ok_l1_h.get σ fun x => spec_l30Ok_l1_F k k x kx) := by
  refine ⟨spec_l30Ok_l1_h, [(2, spec_l30Ok_l1_x2)], fun n x kx => spec_l30Ok_l1_F k n x kx, k, by kernel_rfl, by kernel_rfl, fun x kx => by kernel_rfl, ?_, fun σ kx => rfl⟩
  rintro n ⟨⟨lines0, i3, k4, ⟨⟩⟩, ⟨⟩, ⟨⟩⟩ kx
  kernel_rfl
theorem spec_l30Ok_l0_ok (k : Nat) : LoopOK (mkEnv ti [] (lk []) pins0 pinB0) (spec_l30Ok_O k) (rdC (mkEnv ti [] (lk []) pins0 pinB0) [.tmp 2] .bool) ((loopsOf (codeOf Tryd.f60)).getD 0 .skip) (fun σ kx => spec_l30Ok_l0_h.get σ fun x => spec_l30Ok_l0_F k k x kx) := by
  refine ⟨spec_l30Ok_l0_h, [(0, spec_l30Ok_l0_x0)], fun n x kx => spec_l30Ok_l0_F k n x kx, k, by kernel_rfl, by kernel_rfl, fun x kx => by kernel_rfl, ?_, fun σ kx => rfl⟩
  rintro n ⟨⟨lines0, i3, ⟨⟩⟩, ⟨⟩, ⟨⟩⟩ kx
  kernel_rfl
theorem ok_spec_l30Ok (k : Nat) : FnOK Tryd.prog 60 (fe_spec_l30Ok k) := by
  refine closed_ok (tab := []) (l := []) ti_ok ti_ht mix (List.forall_mem_nil _) (List.forall_mem_nil _) ⟨⟨Tryd.f60, (codeOf Tryd.f60), [.tmp 2], (spec_l30Ok_O k), by kernel_rfl, by kernel_rfl, by kernel_rfl, by kernel_rfl, rfl, by decide, ⟨by kernel_rfl, ?_, ?_⟩, ?_⟩⟩
  · refine loops_of (n := 2) (by kernel_rfl) fun i hi => ?_
    match i, hi with
    | 0, _ => exact loop_of (by kernel_rfl) (spec_l30Ok_l0_ok k)
    | 1, _ => exact loop_of (by kernel_rfl) (spec_l30Ok_l1_ok k)
    | n + 2, hi => omega
  · exact no_cuts (by kernel_rfl)
  · rintro lines0
    kernel_rfl
/- 30 loop.example/g01005/spec.l30Done (open) -/
def spec_l30Done_g (k : Nat) (q_1 : List (List UInt8)) : Option ((((Unit × (Int × Unit)) × Unit) × ((List (List UInt8)) × Unit) × Unit)) := (spec_l30Ok k q_1).bind fun r_2 => (if (!r_2) = true then some ((((), (5, ())), ()), ([], ()), ()) else some ((((), (0, ())), ()), (q_1, ()), ()))
def spec_l30Done_g_hi : Head := ⟨[(0, (.ref 1000000000 []))], [(1000000000, 9, .str, false)], []⟩
def spec_l30Done_g_ho : Head := ⟨[(0, (.tup (.cns (.ref 64000000 []) (.cns (.val (.int .i64)) .nl))))], [(64000000, 9, .str, false)], []⟩
def oc_spec_l30Done_g (k : Nat) : OC := ⟨spec_l30Done_g_hi, spec_l30Done_g_ho, fun x => spec_l30Done_g k x.2.1.1⟩
theorem ok_spec_l30Done_g (k : Nat) : OpenOK Tryd.prog ti 30 (oc_spec_l30Done_g k) := by
  refine give_ok (tab := [(60, fe_spec_l30Ok k)]) (l := []) (n := 2) (t := (.pr (.sl 9 .str) (.int .i64))) ti_ok ti_ht mix (List.forall_mem_cons.2 ⟨ok_spec_l30Ok k, (List.forall_mem_nil _)⟩) (List.forall_mem_nil _) ⟨by kernel_rfl, by kernel_rfl, by kernel_rfl, by kernel_rfl, Tryd.f30, (codeOf Tryd.f30), [.tmp 2, .tmp 3], (LOn ((((Unit × (Int × Unit)) × Unit) × ((List (List UInt8)) × Unit) × Unit))), by kernel_rfl, by kernel_rfl, by kernel_rfl, by kernel_rfl, by kernel_rfl, Nat.le_of_ble_eq_true (by kernel_rfl), fun pins pinB => ⟨⟨by kernel_rfl, ?_, ?_⟩, ?_⟩⟩
  · exact no_loops (by kernel_rfl)
  · exact no_cuts (by kernel_rfl)
  · rintro ⟨⟨⟨⟩, ⟨⟩⟩, ⟨q_1, ⟨⟩⟩, ⟨⟩⟩
    kernel_rfl
/- 7 loop.example/g01005/spec.GraphPicture -/
def spec_GraphPicture_l1 (k : Nat) : Nat → Int → (List UInt8) → Int → (List (List Int)) → (List (List UInt8)) → (Int → (List UInt8) → (List (List Int)) → (List (List UInt8)) → Option (List (List UInt8) × Int)) → Option (List (List UInt8) × Int)
  | 0, _, _, _, _, _, _ => none
  | n + 1, i6, line7, k8, q_5, q_6, e_2 => (if (decide (k8 < (List.length q_5 : Int))) = true then (if (decide (i6 = k8)) = true then (if line7.length + [92].length ≤ 9223372036854775807 then spec_GraphPicture_l1 k n i6 (line7 ++ [92]) (w_i64 (k8 + 1)) q_5 q_6 e_2 else none) else (if 0 ≤ i6 ∧ i6.toNat < List.length q_5 then (q_5[i6.toNat]?).bind fun y_7 => (q_5[i6.toNat]?).bind fun y_8 => (if 0 ≤ k8 ∧ k8.toNat < List.length y_8 then (q_5[i6.toNat]?).bind fun y_9 => (y_9[k8.toNat]?).bind fun y_10 => (if (decide (y_10 = 0)) = true then (if line7.length + [46].length ≤ 9223372036854775807 then spec_GraphPicture_l1 k n i6 (line7 ++ [46]) (w_i64 (k8 + 1)) q_5 q_6 e_2 else none) else (if 0 ≤ i6 ∧ i6.toNat < List.length q_5 then (q_5[i6.toNat]?).bind fun y_11 => (q_5[i6.toNat]?).bind fun y_12 => (if 0 ≤ k8 ∧ k8.toNat < List.length y_12 then (q_5[i6.toNat]?).bind fun y_13 => (y_13[k8.toNat]?).bind fun y_14 => (spec_l01Dec k (w_i64 (0 - y_14))).bind fun r_15 => (if line7.length + r_15.length ≤ 9223372036854775807 then spec_GraphPicture_l1 k n i6 (line7 ++ r_15) (w_i64 (k8 + 1)) q_5 q_6 e_2 else none) else none) else none)) else none) else none)) else e_2 i6 line7 q_5 q_6)
def spec_GraphPicture_l0 (k : Nat) : Nat → Int → (List (List Int)) → (List (List UInt8)) → ((List (List UInt8)) → Option (List (List UInt8) × Int)) → Option (List (List UInt8) × Int)
  | 0, _, _, _, _ => none
  | n + 1, i6, q_3, q_4, e_0 => (if (decide (i6 < (List.length q_3 : Int))) = true then spec_GraphPicture_l1 k k i6 [] 0 q_3 q_4 (fun i_5 line_6 q_7 q_8 => (if (q_8.length + [line_6].length) * 16 ≤ LIM then spec_GraphPicture_l0 k n (w_i64 (i_5 + 1)) q_7 (q_8 ++ [line_6]) e_0 else none)) else e_0 q_4)
def spec_GraphPicture (k : Nat) (g0 : Int × List (Int × Int × Int)) : Option (List (List UInt8) × Int) := (spec_l16Ok k g0).bind fun r_1 => (if (!r_1) = true then some ([], 1) else (spec_l16Rows k g0).bind fun r_2 => spec_GraphPicture_l0 k k 0 r_2 [] (fun q_9 => (spec_l30Done_g k q_9).bind fun y_10 => some (y_10.2.1.1, y_10.1.1.2.1)))
def spec_GraphPicture_l1_h : Head := ⟨[(4, (.ref 64000000 [])), (5, (.ref 64000001 [])), (6, (.val (.int .i64))), (7, (.val .str)), (8, (.val (.int .i64)))], [(64000000, 38, (.sl 2 (.int .i64)), false), (64000001, 9, .str, false)], []⟩
def spec_GraphPicture_l1_x2 : Head := ⟨[(4, (.ref 64000000 [])), (5, (.ref 64000001 [])), (6, (.val (.int .i64))), (7, (.val .str))], [(64000000, 38, (.sl 2 (.int .i64)), false), (64000001, 9, .str, false)], []⟩
def spec_GraphPicture_l1_F (k n : Nat) (x : spec_GraphPicture_l1_h.T) (kx : Nat → St → Option (List (List UInt8) × Int)) : Option (List (List UInt8) × Int) := spec_GraphPicture_l1 k n x.1.2.2.1 x.1.2.2.2.1 x.1.2.2.2.2.1 x.2.1.1 x.2.1.2.1 (fun (i6 : Int) (line7 : List UInt8) (q_16 : List (List Int)) (q_17 : List (List UInt8)) => kx 2 (spec_GraphPicture_l1_x2.fill (((), (), i6, line7, ()), (q_16, q_17, ()), ())))
def spec_GraphPicture_l0_h : Head := ⟨[(4, (.ref 64000000 [])), (5, (.ref 64000001 [])), (6, (.val (.int .i64)))], [(64000000, 38, (.sl 2 (.int .i64)), false), (64000001, 9, .str, false)], []⟩
def spec_GraphPicture_l0_x0 : Head := ⟨[(5, (.ref 64000000 []))], [(64000000, 9, .str, false)], []⟩
def spec_GraphPicture_l0_F (k n : Nat) (x : spec_GraphPicture_l0_h.T) (kx : Nat → St → Option (List (List UInt8) × Int)) : Option (List (List UInt8) × Int) := spec_GraphPicture_l0 k n x.1.2.2.1 x.2.1.1 x.2.1.2.1 (fun (q_20 : List (List UInt8)) => kx 0 (spec_GraphPicture_l0_x0.fill (((), ()), (q_20, ()), ())))
def spec_GraphPicture_O (k : Nat) : Oracles (List (List UInt8) × Int) := ⟨fun n => bif Nat.beq n 10 then some (fun σ kx => spec_GraphPicture_l1_h.get σ fun x => spec_GraphPicture_l1_F k k x kx) else bif Nat.beq n 6 then some (fun σ kx => spec_GraphPicture_l0_h.get σ fun x => spec_GraphPicture_l0_F k k x kx) else none, fun _ => none⟩
def fe_spec_GraphPicture (k : Nat) : FE := ⟨(.st (.pr (.int .i64) (.sl 99 (.st (.pr (.int .i64) (.pr (.int .i64) (.int .i64))))))), 2, (.pr (.sl 9 .str) (.int .i64)), fun x => spec_GraphPicture k x⟩
theorem spec_GraphPicture_l1_ok (k : Nat) : LoopOK (mkEnv ti [(27, fe_spec_l16Ok k), (28, fe_spec_l16Rows k), (29, fe_spec_l01Dec k)] (lk [(58, 30, oc_spec_l30Done_g k)]) pins0 pinB0) (spec_GraphPicture_O k) (rdC (mkEnv ti [(27, fe_spec_l16Ok k), (28, fe_spec_l16Rows k), (29, fe_spec_l01Dec k)] (lk [(58, 30, oc_spec_l30Done_g k)]) pins0 pinB0) [.tmp 2, .tmp 3] (.pr (.sl 9 .str) (.int .i64))) ((loopsOf (codeOf Tryd.f7)).getD 1 .skip) (fun σ kx => spec_GraphPicture_l1_h.get σ fun x => spec_GraphPicture_l1_F k k x kx) := by
  refine ⟨spec_GraphPicture_l1_h, [(2, spec_GraphPicture_l1_x2)], fun n x kx => spec_GraphPicture_l1_F k n x kx, k, by kernel_rfl, by kernel_rfl, fun x kx => by kernel_rfl, ?_, fun σ kx => rfl⟩
  rintro n ⟨⟨⟨⟩, ⟨⟩, i6, line7, k8, ⟨⟩⟩, ⟨q_5, q_6, ⟨⟩⟩, ⟨⟩⟩ kx
  kernel_rfl
theorem spec_GraphPicture_l0_ok (k : Nat) : LoopOK (mkEnv ti [(27, fe_spec_l16Ok k), (28, fe_spec_l16Rows k), (29, fe_spec_l01Dec k)] (lk [(58, 30, oc_spec_l30Done_g k)]) pins0 pinB0) (spec_GraphPicture_O k) (rdC (mkEnv ti [(27, fe_spec_l16Ok k), (28, fe_spec_l16Rows k), (29, fe_spec_l01Dec k)] (lk [(58, 30, oc_spec_l30Done_g k)]) pins0 pinB0) [.tmp 2, .tmp 3] (.pr (.sl 9 .str) (.int .i64))) ((loopsOf (codeOf Tryd.f7)).getD 0 .skip) (fun σ kx => spec_GraphPicture_l0_h.get σ fun x => spec_GraphPicture_l0_F k k x kx) := by
  refine ⟨spec_GraphPicture_l0_h, [(0, spec_GraphPicture_l0_x0)], fun n x kx => spec_GraphPicture_l0_F k n x kx, k, by kernel_rfl, by kernel_rfl, fun x kx => by kernel_rfl, ?_, fun σ kx => rfl⟩
  rintro n ⟨⟨⟨⟩, ⟨⟩, i6, ⟨⟩⟩, ⟨q_3, q_4, ⟨⟩⟩, ⟨⟩⟩ kx
  kernel_rfl
theorem ok_spec_GraphPicture (k : Nat) : FnOK Tryd.prog 7 (fe_spec_GraphPicture k) := by
  refine closed_ok (tab := [(27, fe_spec_l16Ok k), (28, fe_spec_l16Rows k), (29, fe_spec_l01Dec k)]) (l := [(58, 30, oc_spec_l30Done_g k)]) ti_ok ti_ht mix (List.forall_mem_cons.2 ⟨ok_spec_l16Ok k, (List.forall_mem_cons.2 ⟨ok_spec_l16Rows k, (List.forall_mem_cons.2 ⟨ok_spec_l01Dec k, (List.forall_mem_nil _)⟩)⟩)⟩) (List.forall_mem_cons.2 ⟨ok_spec_l30Done_g k, (List.forall_mem_nil _)⟩) ⟨⟨Tryd.f7, (codeOf Tryd.f7), [.tmp 2, .tmp 3], (spec_GraphPicture_O k), by kernel_rfl, by kernel_rfl, by kernel_rfl, by kernel_rfl, rfl, by decide, ⟨by kernel_rfl, ?_, ?_⟩, ?_⟩⟩
  · refine loops_of (n := 2) (by kernel_rfl) fun i hi => ?_
    match i, hi with
    | 0, _ => exact loop_of (by kernel_rfl) (spec_GraphPicture_l0_ok k)
    | 1, _ => exact loop_of (by kernel_rfl) (spec_GraphPicture_l1_ok k)
    | n + 2, hi => omega
  · exact no_cuts (by kernel_rfl)
  · rintro g0
    kernel_rfl
/- 62 loop.example/g01005/impl.within -/
def impl_within (n0 : Int) (low1 : Int) (high2 : Int) : Option Bool := (if (decide (low1 ≤ n0)) = true then some (decide (n0 ≤ high2)) else some false)
def fe_impl_within : FE := ⟨(.pr (.int .i64) (.pr (.int .i64) (.int .i64))), 1, .bool, fun x => impl_within x.1 x.2.1 x.2.2⟩
theorem ok_impl_within : FnOK Tryd.prog 62 (fe_impl_within) := by
  refine closed_ok (tab := []) (l := []) ti_ok ti_ht mix (List.forall_mem_nil _) (List.forall_mem_nil _) ⟨⟨Tryd.f62, (codeOf Tryd.f62), [.tmp 6], (LOn Bool), by kernel_rfl, by kernel_rfl, by kernel_rfl, by kernel_rfl, rfl, by decide, ⟨by kernel_rfl, ?_, ?_⟩, ?_⟩⟩
  · exact no_loops (by kernel_rfl)
  · exact no_cuts (by kernel_rfl)
  · rintro ⟨n0, low1, high2⟩
    kernel_rfl
end
end Go.Proofs.YtackggcodaolaaaDoor.Ev
