/- Functions of the program, as plain ones. No conditions. -/
import Derived.Test.YtankbidchgcapaaGreatG2
import Derived.KernelRfl
set_option linter.unusedVariables false
set_option maxRecDepth 100000
namespace Go.Proofs.YtankbidchgcapaaGreat.Ev
open Go.RowKit
noncomputable section
/- 65 loop.example/g01005/spec.l09Count -/
def spec_l09Count (k : Nat) (c0 : List (List Int)) : Option Int := (spec_l09Place k c0 (List.length c0 : Int) 0).bind fun r_1 => some r_1
def fe_spec_l09Count (k : Nat) : FE := ⟨(.ptr (.st (.sl 25 (.sl 2 (.int .i64))))), 1, (.int .i64), fun x => spec_l09Count k x⟩
theorem ok_spec_l09Count (k : Nat) : FnOK Tryz.prog 65 (fe_spec_l09Count k) := by
  refine closed_ok (tab := [(67, fe_spec_l09Place k)]) (l := []) ti_ok ti_ht mix (List.forall_mem_cons.2 ⟨ok_spec_l09Place k, (List.forall_mem_nil _)⟩) (List.forall_mem_nil _) ⟨⟨Tryz.f65, (codeOf Tryz.f65), [.tmp 2], (LOn Int), by kernel_rfl, by kernel_rfl, by kernel_rfl, by kernel_rfl, rfl, by decide, ⟨by kernel_rfl, ?_, ?_⟩, ?_⟩⟩
  · exact no_loops (by kernel_rfl)
  · exact no_cuts (by kernel_rfl)
  · rintro c0
    kernel_rfl
/- 96 loop.example/g01005/spec.l05Faces -/
def spec_l05Faces_l0 (k : Nat) : Nat → (List (List Int)) → (List Int) → Int → (List Int) → ((List Int) → Option (List Int)) → Option (List Int)
  | 0, _, _, _, _, _ => none
  | n + 1, c0, s5, i7, q_2, e_0 => (if (decide (i7 < (List.length s5 : Int))) = true then (if (decide (1 < (List.length s5 : Int))) = true then (spec_l05Drop s5 i7).bind fun r_3 => (spec_l05Find k c0 r_3).bind fun r_4 => (if (q_2.length + [r_4].length) * 8 ≤ LIM then spec_l05Faces_l0 k n c0 s5 (w_i64 (i7 + 1)) (q_2 ++ [r_4]) e_0 else none) else e_0 q_2) else e_0 q_2)
def spec_l05Faces (k : Nat) (c0 : List (List Int)) (k1 : Int) : Option (List Int) := (if 0 ≤ k1 then (c0[k1.toNat]?).bind fun y_1 => spec_l05Faces_l0 k k c0 y_1 0 [] (fun q_5 => some q_5) else none)
def spec_l05Faces_l0_h : Head := ⟨[(0, (.val (.ptr (.st (.sl 25 (.sl 2 (.int .i64))))))), (5, (.val (.sl 2 (.int .i64)))), (6, (.ref 64000000 [])), (7, (.val (.int .i64)))], [(64000000, 2, (.int .i64), false)], []⟩
def spec_l05Faces_l0_x0 : Head := ⟨[(6, (.ref 64000000 []))], [(64000000, 2, (.int .i64), false)], []⟩
def spec_l05Faces_l0_F (k n : Nat) (x : spec_l05Faces_l0_h.T) (kx : Nat → St → Option (List Int)) : Option (List Int) := spec_l05Faces_l0 k n x.1.1 x.1.2.1 x.1.2.2.2.1 x.2.1.1 (fun (q_5 : List Int) => kx 0 (spec_l05Faces_l0_x0.fill (((), ()), (q_5, ()), ())))
def spec_l05Faces_O (k : Nat) : Oracles (List Int) := ⟨fun n => bif Nat.beq n 4 then some (fun σ kx => spec_l05Faces_l0_h.get σ fun x => spec_l05Faces_l0_F k k x kx) else none, fun _ => none⟩
def fe_spec_l05Faces (k : Nat) : FE := ⟨(.pr (.ptr (.st (.sl 25 (.sl 2 (.int .i64))))) (.int .i64)), 1, (.sl 2 (.int .i64)), fun x => spec_l05Faces k x.1 x.2⟩
theorem spec_l05Faces_l0_ok (k : Nat) : LoopOK (mkEnv ti [(94, fe_spec_l05Drop), (93, fe_spec_l05Find k)] (lk []) pins0 pinB0) (spec_l05Faces_O k) (rdC (mkEnv ti [(94, fe_spec_l05Drop), (93, fe_spec_l05Find k)] (lk []) pins0 pinB0) [.tmp 4] (.sl 2 (.int .i64))) ((loopsOf (codeOf Tryz.f96)).getD 0 .skip) (fun σ kx => spec_l05Faces_l0_h.get σ fun x => spec_l05Faces_l0_F k k x kx) := by
  refine ⟨spec_l05Faces_l0_h, [(0, spec_l05Faces_l0_x0)], fun n x kx => spec_l05Faces_l0_F k n x kx, k, by kernel_rfl, by kernel_rfl, fun x kx => by kernel_rfl, ?_, fun σ kx => rfl⟩
  rintro n ⟨⟨c0, s5, ⟨⟩, i7, ⟨⟩⟩, ⟨q_2, ⟨⟩⟩, ⟨⟩⟩ kx
  kernel_rfl
theorem ok_spec_l05Faces (k : Nat) : FnOK Tryz.prog 96 (fe_spec_l05Faces k) := by
  refine closed_ok (tab := [(94, fe_spec_l05Drop), (93, fe_spec_l05Find k)]) (l := []) ti_ok ti_ht mix (List.forall_mem_cons.2 ⟨ok_spec_l05Drop, (List.forall_mem_cons.2 ⟨ok_spec_l05Find k, (List.forall_mem_nil _)⟩)⟩) (List.forall_mem_nil _) ⟨⟨Tryz.f96, (codeOf Tryz.f96), [.tmp 4], (spec_l05Faces_O k), by kernel_rfl, by kernel_rfl, by kernel_rfl, by kernel_rfl, rfl, by decide, ⟨by kernel_rfl, ?_, ?_⟩, ?_⟩⟩
  · refine loops_of (n := 1) (by kernel_rfl) fun i hi => ?_
    match i, hi with
    | 0, _ => exact loop_of (by kernel_rfl) (spec_l05Faces_l0_ok k)
    | n + 1, hi => omega
  · exact no_cuts (by kernel_rfl)
  · rintro ⟨c0, k1⟩
    kernel_rfl
/- 97 loop.example/g01005/spec.l03Ok -/
def spec_l03Ok (k : Nat) (m0 : Int × Int × Int × List Int) : Option Bool := (spec_ValidPrime k m0.1).bind fun r_1 => (if r_1 = true then (spec_l00In m0.2.1 0 32).bind fun r_2 => (if r_2 = true then (spec_l00In m0.2.2.1 0 32).bind fun r_3 => (if r_3 = true then (spec_l03Column k m0.2.2.2 (w_i64 (m0.2.1 * m0.2.2.1)) m0.1).bind fun r_4 => some r_4 else some false) else some false) else some false)
def fe_spec_l03Ok (k : Nat) : FE := ⟨(.ptr (.st (.pr (.int .i64) (.pr (.int .i64) (.pr (.int .i64) (.sl 2 (.int .i64))))))), 1, .bool, fun x => spec_l03Ok k x⟩
theorem ok_spec_l03Ok (k : Nat) : FnOK Tryz.prog 97 (fe_spec_l03Ok k) := by
  refine closed_ok (tab := [(63, fe_spec_ValidPrime k), (68, fe_spec_l00In), (35, fe_spec_l03Column k)]) (l := []) ti_ok ti_ht mix (List.forall_mem_cons.2 ⟨ok_spec_ValidPrime k, (List.forall_mem_cons.2 ⟨ok_spec_l00In, (List.forall_mem_cons.2 ⟨ok_spec_l03Column k, (List.forall_mem_nil _)⟩)⟩)⟩) (List.forall_mem_nil _) ⟨⟨Tryz.f97, (codeOf Tryz.f97), [.tmp 2], (LOn Bool), by kernel_rfl, by kernel_rfl, by kernel_rfl, by kernel_rfl, rfl, by decide, ⟨by kernel_rfl, ?_, ?_⟩, ?_⟩⟩
  · exact no_loops (by kernel_rfl)
  · exact no_cuts (by kernel_rfl)
  · rintro m0
    kernel_rfl
/- 66 loop.example/g01005/spec.l09Map -/
def spec_l09Map (k : Nat) (s0 : List (List Int) × Int × List Int × List (Int × Int × Int × List Int)) (simplex1 : Int) (i2 : Int) (m3 : Int × Int × Int × List Int) : Option Bool := (spec_l05Faces k s0.1 simplex1).bind fun r_1 => (if 0 ≤ i2 ∧ i2.toNat < List.length r_1 then (r_1[i2.toNat]?).bind fun y_2 => (spec_l03Ok k m3).bind fun r_3 => (if r_3 = true then (if (decide (m3.1 = s0.2.1)) = true then (if 0 ≤ simplex1 then (s0.2.2.1[simplex1.toNat]?).bind fun y_4 => (if (decide (m3.2.1 = y_4)) = true then (if 0 ≤ y_2 then (s0.2.2.1[y_2.toNat]?).bind fun y_5 => some (decide (m3.2.2.1 = y_5)) else none) else some false) else none) else some false) else some false) else none)
def fe_spec_l09Map (k : Nat) : FE := ⟨(.pr (.ptr (.st (.pr (.st (.sl 25 (.sl 2 (.int .i64)))) (.pr (.int .i64) (.pr (.sl 2 (.int .i64)) (.sl 100 (.st (.pr (.int .i64) (.pr (.int .i64) (.pr (.int .i64) (.sl 2 (.int .i64)))))))))))) (.pr (.int .i64) (.pr (.int .i64) (.ptr (.st (.pr (.int .i64) (.pr (.int .i64) (.pr (.int .i64) (.sl 2 (.int .i64)))))))))), 1, .bool, fun x => spec_l09Map k x.1 x.2.1 x.2.2.1 x.2.2.2⟩
theorem ok_spec_l09Map (k : Nat) : FnOK Tryz.prog 66 (fe_spec_l09Map k) := by
  refine closed_ok (tab := [(96, fe_spec_l05Faces k), (97, fe_spec_l03Ok k)]) (l := []) ti_ok ti_ht mix (List.forall_mem_cons.2 ⟨ok_spec_l05Faces k, (List.forall_mem_cons.2 ⟨ok_spec_l03Ok k, (List.forall_mem_nil _)⟩)⟩) (List.forall_mem_nil _) ⟨⟨Tryz.f66, (codeOf Tryz.f66), [.tmp 8], (LOn Bool), by kernel_rfl, by kernel_rfl, by kernel_rfl, by kernel_rfl, rfl, by decide, ⟨by kernel_rfl, ?_, ?_⟩, ?_⟩⟩
  · exact no_loops (by kernel_rfl)
  · exact no_cuts (by kernel_rfl)
  · rintro ⟨s0, simplex1, i2, m3⟩
    kernel_rfl
/- 33 loop.example/g01005/spec.l09Ok -/
def spec_l09Ok_l1 (k : Nat) : Nat → (List (List Int) × Int × List Int × List (Int × Int × Int × List Int)) → Int → Int → ((List (List Int) × Int × List Int × List (Int × Int × Int × List Int)) → Int → Option Bool) → Option Bool
  | 0, _, _, _, _ => none
  | n + 1, s0, k3, i4, e_2 => (if 0 ≤ k3 then (s0.1[k3.toNat]?).bind fun y_5 => (if (decide (i4 < (List.length y_5 : Int))) = true then (if 0 ≤ k3 then (s0.1[k3.toNat]?).bind fun y_6 => (if (decide (1 < (List.length y_6 : Int))) = true then (spec_l09Place k s0.1 k3 i4).bind fun r_7 => (if 0 ≤ r_7 then (s0.2.2.2[r_7.toNat]?).bind fun y_8 => (spec_l09Map k s0 k3 i4 y_8).bind fun r_9 => (if (!r_9) = true then some false else spec_l09Ok_l1 k n s0 k3 (w_i64 (i4 + 1)) e_2) else none) else e_2 s0 k3) else none) else e_2 s0 k3) else none)
def spec_l09Ok_l0 (k : Nat) : Nat → (List (List Int) × Int × List Int × List (Int × Int × Int × List Int)) → Int → (Option Bool) → Option Bool
  | 0, _, _, _ => none
  | n + 1, s0, k3, e_0 => (if (decide (k3 < (List.length s0.1 : Int))) = true then spec_l09Ok_l1 k k s0 k3 0 (fun s_5 k_6 => spec_l09Ok_l0 k n s_5 (w_i64 (k_6 + 1)) e_0) else e_0)
def spec_l09Ok (k : Nat) (s0 : List (List Int) × Int × List Int × List (Int × Int × Int × List Int)) : Option Bool := (spec_l05Ok k s0.1).bind fun r_1 => (if (!r_1) = true then some false else (spec_ValidPrime k s0.2.1).bind fun r_2 => (if (!r_2) = true then some false else (spec_l09Stalks k s0.1 s0.2.2.1).bind fun r_3 => (if (!r_3) = true then some false else (spec_l09Count k s0.1).bind fun r_4 => (if (!(decide ((List.length s0.2.2.2 : Int) = r_4))) = true then some false else spec_l09Ok_l0 k k s0 0 (some true)))))
def spec_l09Ok_l1_h : Head := ⟨[(0, (.val (.ptr (.st (.pr (.st (.sl 25 (.sl 2 (.int .i64)))) (.pr (.int .i64) (.pr (.sl 2 (.int .i64)) (.sl 100 (.st (.pr (.int .i64) (.pr (.int .i64) (.pr (.int .i64) (.sl 2 (.int .i64)))))))))))))), (3, (.val (.int .i64))), (4, (.val (.int .i64)))], [], []⟩
def spec_l09Ok_l1_x2 : Head := ⟨[(0, (.val (.ptr (.st (.pr (.st (.sl 25 (.sl 2 (.int .i64)))) (.pr (.int .i64) (.pr (.sl 2 (.int .i64)) (.sl 100 (.st (.pr (.int .i64) (.pr (.int .i64) (.pr (.int .i64) (.sl 2 (.int .i64)))))))))))))), (3, (.val (.int .i64)))], [], []⟩
def spec_l09Ok_l1_F (k n : Nat) (x : spec_l09Ok_l1_h.T) (kx : Nat → St → Option Bool) : Option Bool := spec_l09Ok_l1 k n x.1.1 x.1.2.1 x.1.2.2.1 (fun (s0 : List (List Int) × Int × List Int × List (Int × Int × Int × List Int)) (k3 : Int) => kx 2 (spec_l09Ok_l1_x2.fill ((s0, k3, ()), (), ())))
def spec_l09Ok_l0_h : Head := ⟨[(0, (.val (.ptr (.st (.pr (.st (.sl 25 (.sl 2 (.int .i64)))) (.pr (.int .i64) (.pr (.sl 2 (.int .i64)) (.sl 100 (.st (.pr (.int .i64) (.pr (.int .i64) (.pr (.int .i64) (.sl 2 (.int .i64)))))))))))))), (3, (.val (.int .i64)))], [], []⟩
def spec_l09Ok_l0_x0 : Head := ⟨[], [], []⟩
def spec_l09Ok_l0_F (k n : Nat) (x : spec_l09Ok_l0_h.T) (kx : Nat → St → Option Bool) : Option Bool := spec_l09Ok_l0 k n x.1.1 x.1.2.1 (kx 0 (spec_l09Ok_l0_x0.fill ((), (), ())))
def spec_l09Ok_O (k : Nat) : Oracles Bool := ⟨fun n => bif Nat.beq n 7 then some (fun σ kx => spec_l09Ok_l1_h.get σ fun x => spec_l09Ok_l1_F k k x kx) else bif Nat.beq n 4 then some (fun σ kx => spec_l09Ok_l0_h.get σ fun x => spec_l09Ok_l0_F k k x kx) else none, fun _ => none⟩
def fe_spec_l09Ok (k : Nat) : FE := ⟨(.ptr (.st (.pr (.st (.sl 25 (.sl 2 (.int .i64)))) (.pr (.int .i64) (.pr (.sl 2 (.int .i64)) (.sl 100 (.st (.pr (.int .i64) (.pr (.int .i64) (.pr (.int .i64) (.sl 2 (.int .i64)))))))))))), 1, .bool, fun x => spec_l09Ok k x⟩
theorem spec_l09Ok_l1_ok (k : Nat) : LoopOK (mkEnv ti [(62, fe_spec_l05Ok k), (63, fe_spec_ValidPrime k), (64, fe_spec_l09Stalks k), (65, fe_spec_l09Count k), (67, fe_spec_l09Place k), (66, fe_spec_l09Map k)] (lk []) pins0 pinB0) (spec_l09Ok_O k) (rdC (mkEnv ti [(62, fe_spec_l05Ok k), (63, fe_spec_ValidPrime k), (64, fe_spec_l09Stalks k), (65, fe_spec_l09Count k), (67, fe_spec_l09Place k), (66, fe_spec_l09Map k)] (lk []) pins0 pinB0) [.tmp 2] .bool) ((loopsOf (codeOf Tryz.f33)).getD 1 .skip) (fun σ kx => spec_l09Ok_l1_h.get σ fun x => spec_l09Ok_l1_F k k x kx) := by
  refine ⟨spec_l09Ok_l1_h, [(2, spec_l09Ok_l1_x2)], fun n x kx => spec_l09Ok_l1_F k n x kx, k, by kernel_rfl, by kernel_rfl, fun x kx => by kernel_rfl, ?_, fun σ kx => rfl⟩
  rintro n ⟨⟨s0, k3, i4, ⟨⟩⟩, ⟨⟩, ⟨⟩⟩ kx
  kernel_rfl
theorem spec_l09Ok_l0_ok (k : Nat) : LoopOK (mkEnv ti [(62, fe_spec_l05Ok k), (63, fe_spec_ValidPrime k), (64, fe_spec_l09Stalks k), (65, fe_spec_l09Count k), (67, fe_spec_l09Place k), (66, fe_spec_l09Map k)] (lk []) pins0 pinB0) (spec_l09Ok_O k) (rdC (mkEnv ti [(62, fe_spec_l05Ok k), (63, fe_spec_ValidPrime k), (64, fe_spec_l09Stalks k), (65, fe_spec_l09Count k), (67, fe_spec_l09Place k), (66, fe_spec_l09Map k)] (lk []) pins0 pinB0) [.tmp 2] .bool) ((loopsOf (codeOf Tryz.f33)).getD 0 .skip) (fun σ kx => spec_l09Ok_l0_h.get σ fun x => spec_l09Ok_l0_F k k x kx) := by
  refine ⟨spec_l09Ok_l0_h, [(0, spec_l09Ok_l0_x0)], fun n x kx => spec_l09Ok_l0_F k n x kx, k, by kernel_rfl, by kernel_rfl, fun x kx => by kernel_rfl, ?_, fun σ kx => rfl⟩
  rintro n ⟨⟨s0, k3, ⟨⟩⟩, ⟨⟩, ⟨⟩⟩ kx
  kernel_rfl
theorem ok_spec_l09Ok (k : Nat) : FnOK Tryz.prog 33 (fe_spec_l09Ok k) := by
  refine closed_ok (tab := [(62, fe_spec_l05Ok k), (63, fe_spec_ValidPrime k), (64, fe_spec_l09Stalks k), (65, fe_spec_l09Count k), (67, fe_spec_l09Place k), (66, fe_spec_l09Map k)]) (l := []) ti_ok ti_ht mix (List.forall_mem_cons.2 ⟨ok_spec_l05Ok k, (List.forall_mem_cons.2 ⟨ok_spec_ValidPrime k, (List.forall_mem_cons.2 ⟨ok_spec_l09Stalks k, (List.forall_mem_cons.2 ⟨ok_spec_l09Count k, (List.forall_mem_cons.2 ⟨ok_spec_l09Place k, (List.forall_mem_cons.2 ⟨ok_spec_l09Map k, (List.forall_mem_nil _)⟩)⟩)⟩)⟩)⟩)⟩) (List.forall_mem_nil _) ⟨⟨Tryz.f33, (codeOf Tryz.f33), [.tmp 2], (spec_l09Ok_O k), by kernel_rfl, by kernel_rfl, by kernel_rfl, by kernel_rfl, rfl, by decide, ⟨by kernel_rfl, ?_, ?_⟩, ?_⟩⟩
  · refine loops_of (n := 2) (by kernel_rfl) fun i hi => ?_
    match i, hi with
    | 0, _ => exact loop_of (by kernel_rfl) (spec_l09Ok_l0_ok k)
    | 1, _ => exact loop_of (by kernel_rfl) (spec_l09Ok_l1_ok k)
    | n + 2, hi => omega
  · exact no_cuts (by kernel_rfl)
  · rintro s0
    kernel_rfl
/- 34 loop.example/g01005/spec.l05Dimension -/
def spec_l05Dimension (n0 : Int) : Option Bool := (spec_l00In n0 0 3).bind fun r_1 => some r_1
def fe_spec_l05Dimension : FE := ⟨(.int .i64), 1, .bool, fun x => spec_l05Dimension x⟩
theorem ok_spec_l05Dimension : FnOK Tryz.prog 34 (fe_spec_l05Dimension) := by
  refine closed_ok (tab := [(68, fe_spec_l00In)]) (l := []) ti_ok ti_ht mix (List.forall_mem_cons.2 ⟨ok_spec_l00In, (List.forall_mem_nil _)⟩) (List.forall_mem_nil _) ⟨⟨Tryz.f34, (codeOf Tryz.f34), [.tmp 2], (LOn Bool), by kernel_rfl, by kernel_rfl, by kernel_rfl, by kernel_rfl, rfl, by decide, ⟨by kernel_rfl, ?_, ?_⟩, ?_⟩⟩
  · exact no_loops (by kernel_rfl)
  · exact no_cuts (by kernel_rfl)
  · rintro n0
    kernel_rfl
/- 37 loop.example/g01005/spec.l19Ok -/
def spec_l19Ok_l0 (k : Nat) : Nat → (Int × Int × Int × List (Int × Int × Int)) → Int → ((Int × Int × Int × List (Int × Int × Int)) → Option Bool) → Option Bool
  | 0, _, _, _ => none
  | n + 1, n0, i3, e_0 => (if (decide (i3 < (List.length n0.2.2.2 : Int))) = true then (if 0 ≤ i3 then (n0.2.2.2[i3.toNat]?).bind fun y_4 => (spec_l00In y_4.1 0 (w_i64 (n0.1 - 1))).bind fun r_5 => (if (!r_5) = true then some false else (spec_l00In y_4.2.1 0 (w_i64 (n0.1 - 1))).bind fun r_6 => (if (!r_6) = true then some false else (if (decide (y_4.1 = y_4.2.1)) = true then some false else (spec_l00In y_4.2.2 0 1000000).bind fun r_7 => (if (!r_7) = true then some false else (if (decide (0 < i3)) = true then (if 0 ≤ (w_i64 (i3 - 1)) then (n0.2.2.2[(w_i64 (i3 - 1)).toNat]?).bind fun y_8 => (if (decide (y_4.1 < y_8.1)) = true then some false else (if 0 ≤ (w_i64 (i3 - 1)) then (n0.2.2.2[(w_i64 (i3 - 1)).toNat]?).bind fun y_9 => (if (decide (y_9.1 = y_4.1)) = true then (if 0 ≤ (w_i64 (i3 - 1)) then (n0.2.2.2[(w_i64 (i3 - 1)).toNat]?).bind fun y_10 => (if (decide (y_4.2.1 ≤ y_10.2.1)) = true then some false else spec_l19Ok_l0 k n n0 (w_i64 (i3 + 1)) e_0) else none) else spec_l19Ok_l0 k n n0 (w_i64 (i3 + 1)) e_0) else none)) else none) else spec_l19Ok_l0 k n n0 (w_i64 (i3 + 1)) e_0))))) else none) else e_0 n0)
def spec_l19Ok (k : Nat) (n0 : Int × Int × Int × List (Int × Int × Int)) : Option Bool := (spec_l00In n0.1 2 12).bind fun r_1 => (if (!r_1) = true then some false else (spec_l00In n0.2.1 0 (w_i64 (n0.1 - 1))).bind fun r_2 => (if (!r_2) = true then some false else (spec_l00In n0.2.2.1 0 (w_i64 (n0.1 - 1))).bind fun r_3 => (if (!r_3) = true then some false else (if (decide (n0.2.1 = n0.2.2.1)) = true then some false else spec_l19Ok_l0 k k n0 0 (fun n_11 => some (decide ((List.length n_11.2.2.2 : Int) ≤ 24)))))))
def spec_l19Ok_l0_h : Head := ⟨[(0, (.val (.ptr (.st (.pr (.int .i64) (.pr (.int .i64) (.pr (.int .i64) (.sl 103 (.st (.pr (.int .i64) (.pr (.int .i64) (.int .i64)))))))))))), (3, (.val (.int .i64)))], [], []⟩
def spec_l19Ok_l0_x0 : Head := ⟨[(0, (.val (.ptr (.st (.pr (.int .i64) (.pr (.int .i64) (.pr (.int .i64) (.sl 103 (.st (.pr (.int .i64) (.pr (.int .i64) (.int .i64))))))))))))], [], []⟩
def spec_l19Ok_l0_F (k n : Nat) (x : spec_l19Ok_l0_h.T) (kx : Nat → St → Option Bool) : Option Bool := spec_l19Ok_l0 k n x.1.1 x.1.2.1 (fun (n0 : Int × Int × Int × List (Int × Int × Int)) => kx 0 (spec_l19Ok_l0_x0.fill ((n0, ()), (), ())))
def spec_l19Ok_O (k : Nat) : Oracles Bool := ⟨fun n => bif Nat.beq n 4 then some (fun σ kx => spec_l19Ok_l0_h.get σ fun x => spec_l19Ok_l0_F k k x kx) else none, fun _ => none⟩
def fe_spec_l19Ok (k : Nat) : FE := ⟨(.ptr (.st (.pr (.int .i64) (.pr (.int .i64) (.pr (.int .i64) (.sl 103 (.st (.pr (.int .i64) (.pr (.int .i64) (.int .i64)))))))))), 1, .bool, fun x => spec_l19Ok k x⟩
theorem spec_l19Ok_l0_ok (k : Nat) : LoopOK (mkEnv ti [(68, fe_spec_l00In)] (lk []) pins0 pinB0) (spec_l19Ok_O k) (rdC (mkEnv ti [(68, fe_spec_l00In)] (lk []) pins0 pinB0) [.tmp 2] .bool) ((loopsOf (codeOf Tryz.f37)).getD 0 .skip) (fun σ kx => spec_l19Ok_l0_h.get σ fun x => spec_l19Ok_l0_F k k x kx) := by
  refine ⟨spec_l19Ok_l0_h, [(0, spec_l19Ok_l0_x0)], fun n x kx => spec_l19Ok_l0_F k n x kx, k, by kernel_rfl, by kernel_rfl, fun x kx => by kernel_rfl, ?_, fun σ kx => rfl⟩
  rintro n ⟨⟨n0, i3, ⟨⟩⟩, ⟨⟩, ⟨⟩⟩ kx
  kernel_rfl
theorem ok_spec_l19Ok (k : Nat) : FnOK Tryz.prog 37 (fe_spec_l19Ok k) := by
  refine closed_ok (tab := [(68, fe_spec_l00In)]) (l := []) ti_ok ti_ht mix (List.forall_mem_cons.2 ⟨ok_spec_l00In, (List.forall_mem_nil _)⟩) (List.forall_mem_nil _) ⟨⟨Tryz.f37, (codeOf Tryz.f37), [.tmp 2], (spec_l19Ok_O k), by kernel_rfl, by kernel_rfl, by kernel_rfl, by kernel_rfl, rfl, by decide, ⟨by kernel_rfl, ?_, ?_⟩, ?_⟩⟩
  · refine loops_of (n := 1) (by kernel_rfl) fun i hi => ?_
    match i, hi with
    | 0, _ => exact loop_of (by kernel_rfl) (spec_l19Ok_l0_ok k)
    | n + 1, hi => omega
  · exact no_cuts (by kernel_rfl)
  · rintro n0
    kernel_rfl
/- 38 loop.example/g01005/spec.l23Ok -/
def spec_l23Ok_l0 (k : Nat) : Nat → (Int × Int × List (Int × Int × Int)) → Int → ((Int × Int × List (Int × Int × Int)) → Option Bool) → Option Bool
  | 0, _, _, _ => none
  | n + 1, x0, i3, e_0 => (if (decide (i3 < (List.length x0.2.2 : Int))) = true then (if 0 ≤ i3 then (x0.2.2[i3.toNat]?).bind fun y_3 => (spec_l00In y_3.1 0 (w_i64 (x0.1 - 1))).bind fun r_4 => (if (!r_4) = true then some false else (spec_l00In y_3.2.1 (w_i64 (y_3.1 + 1)) (w_i64 (x0.1 - 1))).bind fun r_5 => (if (!r_5) = true then some false else (spec_l00In y_3.2.2 0 (w_i64 (x0.2.1 - 1))).bind fun r_6 => (if (!r_6) = true then some false else (if (decide (0 < i3)) = true then (if 0 ≤ (w_i64 (i3 - 1)) then (x0.2.2[(w_i64 (i3 - 1)).toNat]?).bind fun y_7 => (if (decide (y_3.1 < y_7.1)) = true then some false else (if 0 ≤ (w_i64 (i3 - 1)) then (x0.2.2[(w_i64 (i3 - 1)).toNat]?).bind fun y_8 => (if (decide (y_8.1 = y_3.1)) = true then (if 0 ≤ (w_i64 (i3 - 1)) then (x0.2.2[(w_i64 (i3 - 1)).toNat]?).bind fun y_9 => (if (decide (y_3.2.1 ≤ y_9.2.1)) = true then some false else spec_l23Ok_l0 k n x0 (w_i64 (i3 + 1)) e_0) else none) else spec_l23Ok_l0 k n x0 (w_i64 (i3 + 1)) e_0) else none)) else none) else spec_l23Ok_l0 k n x0 (w_i64 (i3 + 1)) e_0)))) else none) else e_0 x0)
def spec_l23Ok (k : Nat) (x0 : Int × Int × List (Int × Int × Int)) : Option Bool := (spec_l00In x0.1 1 12).bind fun r_1 => (if (!r_1) = true then some false else (spec_l00In x0.2.1 2 360).bind fun r_2 => (if (!r_2) = true then some false else spec_l23Ok_l0 k k x0 0 (fun x_10 => some (decide ((List.length x_10.2.2 : Int) ≤ 24)))))
def spec_l23Ok_l0_h : Head := ⟨[(0, (.val (.ptr (.st (.pr (.int .i64) (.pr (.int .i64) (.sl 108 (.st (.pr (.int .i64) (.pr (.int .i64) (.int .i64))))))))))), (3, (.val (.int .i64)))], [], []⟩
def spec_l23Ok_l0_x0 : Head := ⟨[(0, (.val (.ptr (.st (.pr (.int .i64) (.pr (.int .i64) (.sl 108 (.st (.pr (.int .i64) (.pr (.int .i64) (.int .i64)))))))))))], [], []⟩
def spec_l23Ok_l0_F (k n : Nat) (x : spec_l23Ok_l0_h.T) (kx : Nat → St → Option Bool) : Option Bool := spec_l23Ok_l0 k n x.1.1 x.1.2.1 (fun (x0 : Int × Int × List (Int × Int × Int)) => kx 0 (spec_l23Ok_l0_x0.fill ((x0, ()), (), ())))
def spec_l23Ok_O (k : Nat) : Oracles Bool := ⟨fun n => bif Nat.beq n 4 then some (fun σ kx => spec_l23Ok_l0_h.get σ fun x => spec_l23Ok_l0_F k k x kx) else none, fun _ => none⟩
def fe_spec_l23Ok (k : Nat) : FE := ⟨(.ptr (.st (.pr (.int .i64) (.pr (.int .i64) (.sl 108 (.st (.pr (.int .i64) (.pr (.int .i64) (.int .i64))))))))), 1, .bool, fun x => spec_l23Ok k x⟩
theorem spec_l23Ok_l0_ok (k : Nat) : LoopOK (mkEnv ti [(68, fe_spec_l00In)] (lk []) pins0 pinB0) (spec_l23Ok_O k) (rdC (mkEnv ti [(68, fe_spec_l00In)] (lk []) pins0 pinB0) [.tmp 2] .bool) ((loopsOf (codeOf Tryz.f38)).getD 0 .skip) (fun σ kx => spec_l23Ok_l0_h.get σ fun x => spec_l23Ok_l0_F k k x kx) := by
  refine ⟨spec_l23Ok_l0_h, [(0, spec_l23Ok_l0_x0)], fun n x kx => spec_l23Ok_l0_F k n x kx, k, by kernel_rfl, by kernel_rfl, fun x kx => by kernel_rfl, ?_, fun σ kx => rfl⟩
  rintro n ⟨⟨x0, i3, ⟨⟩⟩, ⟨⟩, ⟨⟩⟩ kx
  kernel_rfl
theorem ok_spec_l23Ok (k : Nat) : FnOK Tryz.prog 38 (fe_spec_l23Ok k) := by
  refine closed_ok (tab := [(68, fe_spec_l00In)]) (l := []) ti_ok ti_ht mix (List.forall_mem_cons.2 ⟨ok_spec_l00In, (List.forall_mem_nil _)⟩) (List.forall_mem_nil _) ⟨⟨Tryz.f38, (codeOf Tryz.f38), [.tmp 2], (spec_l23Ok_O k), by kernel_rfl, by kernel_rfl, by kernel_rfl, by kernel_rfl, rfl, by decide, ⟨by kernel_rfl, ?_, ?_⟩, ?_⟩⟩
  · refine loops_of (n := 1) (by kernel_rfl) fun i hi => ?_
    match i, hi with
    | 0, _ => exact loop_of (by kernel_rfl) (spec_l23Ok_l0_ok k)
    | n + 1, hi => omega
  · exact no_cuts (by kernel_rfl)
  · rintro x0
    kernel_rfl
/- 39 loop.example/g01005/spec.l23List -/
def spec_l23List (k : Nat) (x0 : Int × Int × List (Int × Int × Int)) (phases1 : List Int) : Option Bool := (spec_l03Column k phases1 x0.1 x0.2.1).bind fun r_1 => some r_1
def fe_spec_l23List (k : Nat) : FE := ⟨(.pr (.ptr (.st (.pr (.int .i64) (.pr (.int .i64) (.sl 108 (.st (.pr (.int .i64) (.pr (.int .i64) (.int .i64))))))))) (.sl 2 (.int .i64))), 1, .bool, fun x => spec_l23List k x.1 x.2⟩
theorem ok_spec_l23List (k : Nat) : FnOK Tryz.prog 39 (fe_spec_l23List k) := by
  refine closed_ok (tab := [(35, fe_spec_l03Column k)]) (l := []) ti_ok ti_ht mix (List.forall_mem_cons.2 ⟨ok_spec_l03Column k, (List.forall_mem_nil _)⟩) (List.forall_mem_nil _) ⟨⟨Tryz.f39, (codeOf Tryz.f39), [.tmp 4], (LOn Bool), by kernel_rfl, by kernel_rfl, by kernel_rfl, by kernel_rfl, rfl, by decide, ⟨by kernel_rfl, ?_, ?_⟩, ?_⟩⟩
  · exact no_loops (by kernel_rfl)
  · exact no_cuts (by kernel_rfl)
  · rintro ⟨x0, phases1⟩
    kernel_rfl
/- 13 loop.example/g01005/spec.l31Ok -/
def spec_l31Ok (k : Nat) (w0 : (List (List Int) × Int × List Int × List (Int × Int × Int × List Int)) × Int × List Int × List Int × (Int × Int × Int × List (Int × Int × Int)) × List Int × List Int × (Int × Int × List (Int × Int × Int)) × List Int) : Option Bool := (spec_l09Ok k w0.1).bind fun r_1 => (if (!r_1) = true then some false else (spec_l05Dimension w0.2.1).bind fun r_2 => (if (!r_2) = true then some false else (spec_l09Sum k w0.1.1 w0.1.2.2.1 w0.2.1).bind fun r_3 => (spec_l03Column k w0.2.2.1 r_3 w0.1.2.1).bind fun r_4 => (if (!r_4) = true then some false else (spec_l09Sum k w0.1.1 w0.1.2.2.1 0).bind fun r_5 => (spec_l03Column k w0.2.2.2.1 r_5 w0.1.2.1).bind fun r_6 => (if (!r_6) = true then some false else (spec_l19Ok k w0.2.2.2.2.1).bind fun r_7 => (if r_7 = true then (spec_l23Ok k w0.2.2.2.2.2.2.2.1).bind fun r_8 => (if r_8 = true then (spec_l23List k w0.2.2.2.2.2.2.2.1 w0.2.2.2.2.2.2.2.2).bind fun r_9 => some r_9 else some false) else some false)))))
def fe_spec_l31Ok (k : Nat) : FE := ⟨(.ptr (.st (.pr (.st (.pr (.st (.sl 25 (.sl 2 (.int .i64)))) (.pr (.int .i64) (.pr (.sl 2 (.int .i64)) (.sl 100 (.st (.pr (.int .i64) (.pr (.int .i64) (.pr (.int .i64) (.sl 2 (.int .i64))))))))))) (.pr (.int .i64) (.pr (.sl 2 (.int .i64)) (.pr (.sl 2 (.int .i64)) (.pr (.st (.pr (.int .i64) (.pr (.int .i64) (.pr (.int .i64) (.sl 103 (.st (.pr (.int .i64) (.pr (.int .i64) (.int .i64))))))))) (.pr (.sl 2 (.int .i64)) (.pr (.sl 2 (.int .i64)) (.pr (.st (.pr (.int .i64) (.pr (.int .i64) (.sl 108 (.st (.pr (.int .i64) (.pr (.int .i64) (.int .i64)))))))) (.sl 2 (.int .i64)))))))))))), 1, .bool, fun x => spec_l31Ok k x⟩
theorem ok_spec_l31Ok (k : Nat) : FnOK Tryz.prog 13 (fe_spec_l31Ok k) := by
  refine closed_ok (tab := [(33, fe_spec_l09Ok k), (34, fe_spec_l05Dimension), (36, fe_spec_l09Sum k), (35, fe_spec_l03Column k), (37, fe_spec_l19Ok k), (38, fe_spec_l23Ok k), (39, fe_spec_l23List k)]) (l := []) ti_ok ti_ht mix (List.forall_mem_cons.2 ⟨ok_spec_l09Ok k, (List.forall_mem_cons.2 ⟨ok_spec_l05Dimension, (List.forall_mem_cons.2 ⟨ok_spec_l09Sum k, (List.forall_mem_cons.2 ⟨ok_spec_l03Column k, (List.forall_mem_cons.2 ⟨ok_spec_l19Ok k, (List.forall_mem_cons.2 ⟨ok_spec_l23Ok k, (List.forall_mem_cons.2 ⟨ok_spec_l23List k, (List.forall_mem_nil _)⟩)⟩)⟩)⟩)⟩)⟩)⟩) (List.forall_mem_nil _) ⟨⟨Tryz.f13, (codeOf Tryz.f13), [.tmp 2], (LOn Bool), by kernel_rfl, by kernel_rfl, by kernel_rfl, by kernel_rfl, rfl, by decide, ⟨by kernel_rfl, ?_, ?_⟩, ?_⟩⟩
  · exact no_loops (by kernel_rfl)
  · exact no_cuts (by kernel_rfl)
  · rintro w0
    kernel_rfl
/- 5 loop.example/g01005/spec.ValidWork -/
def spec_ValidWork (k : Nat) (w0 : (List (List Int) × Int × List Int × List (Int × Int × Int × List Int)) × Int × List Int × List Int × (Int × Int × Int × List (Int × Int × Int)) × List Int × List Int × (Int × Int × List (Int × Int × Int)) × List Int) : Option Bool := (spec_l31Ok k w0).bind fun r_1 => some r_1
def fe_spec_ValidWork (k : Nat) : FE := ⟨(.st (.pr (.st (.pr (.st (.sl 25 (.sl 2 (.int .i64)))) (.pr (.int .i64) (.pr (.sl 2 (.int .i64)) (.sl 100 (.st (.pr (.int .i64) (.pr (.int .i64) (.pr (.int .i64) (.sl 2 (.int .i64))))))))))) (.pr (.int .i64) (.pr (.sl 2 (.int .i64)) (.pr (.sl 2 (.int .i64)) (.pr (.st (.pr (.int .i64) (.pr (.int .i64) (.pr (.int .i64) (.sl 103 (.st (.pr (.int .i64) (.pr (.int .i64) (.int .i64))))))))) (.pr (.sl 2 (.int .i64)) (.pr (.sl 2 (.int .i64)) (.pr (.st (.pr (.int .i64) (.pr (.int .i64) (.sl 108 (.st (.pr (.int .i64) (.pr (.int .i64) (.int .i64)))))))) (.sl 2 (.int .i64))))))))))), 1, .bool, fun x => spec_ValidWork k x⟩
theorem ok_spec_ValidWork (k : Nat) : FnOK Tryz.prog 5 (fe_spec_ValidWork k) := by
  refine closed_ok (tab := [(13, fe_spec_l31Ok k)]) (l := []) ti_ok ti_ht mix (List.forall_mem_cons.2 ⟨ok_spec_l31Ok k, (List.forall_mem_nil _)⟩) (List.forall_mem_nil _) ⟨⟨Tryz.f5, (codeOf Tryz.f5), [.tmp 2], (LOn Bool), by kernel_rfl, by kernel_rfl, by kernel_rfl, by kernel_rfl, rfl, by decide, ⟨by kernel_rfl, ?_, ?_⟩, ?_⟩⟩
  · exact no_loops (by kernel_rfl)
  · exact no_cuts (by kernel_rfl)
  · rintro w0
    kernel_rfl
/- 98 loop.example/g01005/impl.isRising -/
def impl_isRising_l0 (k : Nat) : Nat → (List Int) → Int → (Option Bool) → Option Bool
  | 0, _, _, _ => none
  | n + 1, list0, k3, e_0 => (if (decide (k3 < (List.length list0 : Int))) = true then (if 0 ≤ (w_i64 (k3 - 1)) then (list0[(w_i64 (k3 - 1)).toNat]?).bind fun y_1 => (if 0 ≤ k3 then (list0[k3.toNat]?).bind fun y_2 => (if (decide (y_2 ≤ y_1)) = true then some false else impl_isRising_l0 k n list0 (w_i64 (k3 + 1)) e_0) else none) else none) else e_0)
def impl_isRising (k : Nat) (list0 : List Int) : Option Bool := impl_isRising_l0 k k list0 1 (some true)
def impl_isRising_l0_h : Head := ⟨[(0, (.val (.sl 2 (.int .i64)))), (3, (.val (.int .i64)))], [], []⟩
def impl_isRising_l0_x0 : Head := ⟨[], [], []⟩
def impl_isRising_l0_F (k n : Nat) (x : impl_isRising_l0_h.T) (kx : Nat → St → Option Bool) : Option Bool := impl_isRising_l0 k n x.1.1 x.1.2.1 (kx 0 (impl_isRising_l0_x0.fill ((), (), ())))
def impl_isRising_O (k : Nat) : Oracles Bool := ⟨fun n => bif Nat.beq n 2 then some (fun σ kx => impl_isRising_l0_h.get σ fun x => impl_isRising_l0_F k k x kx) else none, fun _ => none⟩
def fe_impl_isRising (k : Nat) : FE := ⟨(.sl 2 (.int .i64)), 1, .bool, fun x => impl_isRising k x⟩
theorem impl_isRising_l0_ok (k : Nat) : LoopOK (mkEnv ti [] (lk []) pins0 pinB0) (impl_isRising_O k) (rdC (mkEnv ti [] (lk []) pins0 pinB0) [.tmp 2] .bool) ((loopsOf (codeOf Tryz.f98)).getD 0 .skip) (fun σ kx => impl_isRising_l0_h.get σ fun x => impl_isRising_l0_F k k x kx) := by
  refine ⟨impl_isRising_l0_h, [(0, impl_isRising_l0_x0)], fun n x kx => impl_isRising_l0_F k n x kx, k, by kernel_rfl, by kernel_rfl, fun x kx => by kernel_rfl, ?_, fun σ kx => rfl⟩
  rintro n ⟨⟨list0, k3, ⟨⟩⟩, ⟨⟩, ⟨⟩⟩ kx
  kernel_rfl
theorem ok_impl_isRising (k : Nat) : FnOK Tryz.prog 98 (fe_impl_isRising k) := by
  refine closed_ok (tab := []) (l := []) ti_ok ti_ht mix (List.forall_mem_nil _) (List.forall_mem_nil _) ⟨⟨Tryz.f98, (codeOf Tryz.f98), [.tmp 2], (impl_isRising_O k), by kernel_rfl, by kernel_rfl, by kernel_rfl, by kernel_rfl, rfl, by decide, ⟨by kernel_rfl, ?_, ?_⟩, ?_⟩⟩
  · refine loops_of (n := 1) (by kernel_rfl) fun i hi => ?_
    match i, hi with
    | 0, _ => exact loop_of (by kernel_rfl) (impl_isRising_l0_ok k)
    | n + 1, hi => omega
  · exact no_cuts (by kernel_rfl)
  · rintro list0
    kernel_rfl
/- 49 loop.example/g01005/impl.within -/
def impl_within (n0 : Int) (low1 : Int) (high2 : Int) : Option Bool := (if (decide (low1 ≤ n0)) = true then some (decide (n0 ≤ high2)) else some false)
def fe_impl_within : FE := ⟨(.pr (.int .i64) (.pr (.int .i64) (.int .i64))), 1, .bool, fun x => impl_within x.1 x.2.1 x.2.2⟩
theorem ok_impl_within : FnOK Tryz.prog 49 (fe_impl_within) := by
  refine closed_ok (tab := []) (l := []) ti_ok ti_ht mix (List.forall_mem_nil _) (List.forall_mem_nil _) ⟨⟨Tryz.f49, (codeOf Tryz.f49), [.tmp 6], (LOn Bool), by kernel_rfl, by kernel_rfl, by kernel_rfl, by kernel_rfl, rfl, by decide, ⟨by kernel_rfl, ?_, ?_⟩, ?_⟩⟩
  · exact no_loops (by kernel_rfl)
  · exact no_cuts (by kernel_rfl)
  · rintro ⟨n0, low1, high2⟩
    kernel_rfl
/- 100 loop.example/g01005/impl.isVertex -/
def impl_isVertex (v0 : Int) : Option Bool := (impl_within v0 0 9).bind fun r_1 => some r_1
def fe_impl_isVertex : FE := ⟨(.int .i64), 1, .bool, fun x => impl_isVertex x⟩
theorem ok_impl_isVertex : FnOK Tryz.prog 100 (fe_impl_isVertex) := by
  refine closed_ok (tab := [(49, fe_impl_within)]) (l := []) ti_ok ti_ht mix (List.forall_mem_cons.2 ⟨ok_impl_within, (List.forall_mem_nil _)⟩) (List.forall_mem_nil _) ⟨⟨Tryz.f100, (codeOf Tryz.f100), [.tmp 2], (LOn Bool), by kernel_rfl, by kernel_rfl, by kernel_rfl, by kernel_rfl, rfl, by decide, ⟨by kernel_rfl, ?_, ?_⟩, ?_⟩⟩
  · exact no_loops (by kernel_rfl)
  · exact no_cuts (by kernel_rfl)
  · rintro v0
    kernel_rfl
/- 99 loop.example/g01005/impl.ValidSimplex$1 -/
def impl_ValidSimplex_1 (v0 : Int) : Option Bool := (impl_isVertex v0).bind fun r_1 => some (!r_1)
def fe_impl_ValidSimplex_1 : FE := ⟨(.int .i64), 1, .bool, fun x => impl_ValidSimplex_1 x⟩
theorem ok_impl_ValidSimplex_1 : FnOK Tryz.prog 99 (fe_impl_ValidSimplex_1) := by
  refine closed_ok (tab := [(100, fe_impl_isVertex)]) (l := []) ti_ok ti_ht mix (List.forall_mem_cons.2 ⟨ok_impl_isVertex, (List.forall_mem_nil _)⟩) (List.forall_mem_nil _) ⟨⟨Tryz.f99, (codeOf Tryz.f99), [.tmp 2], (LOn Bool), by kernel_rfl, by kernel_rfl, by kernel_rfl, by kernel_rfl, rfl, by decide, ⟨by kernel_rfl, ?_, ?_⟩, ?_⟩⟩
  · exact no_loops (by kernel_rfl)
  · exact no_cuts (by kernel_rfl)
  · rintro v0
    kernel_rfl
/- 106 slices.IndexFunc[[]int64,int64] -/
def slices_IndexFunc_int64__impl_ValidSimplex_1_l0 (k : Nat) : Nat → (List Int) → Unit → Int → Int → (Option Int) → Option Int
  | 0, _, _, _, _, _ => none
  | n + 1, s0, f1, x7, x8, e_0 => (if (decide (x8 < x7)) = true then (if 0 ≤ x8 then (s0[x8.toNat]?).bind fun y_1 => (impl_ValidSimplex_1 y_1).bind fun r_2 => (if r_2 = true then some x8 else slices_IndexFunc_int64__impl_ValidSimplex_1_l0 k n s0 f1 x7 (w_i64 (x8 + 1)) e_0) else none) else e_0)
def slices_IndexFunc_int64__impl_ValidSimplex_1 (k : Nat) (s0 : List Int) (f1 : Unit) : Option Int := slices_IndexFunc_int64__impl_ValidSimplex_1_l0 k k s0 f1 (List.length s0 : Int) 0 (some (-1))
def slices_IndexFunc_int64__impl_ValidSimplex_1_l0_h : Head := ⟨[(0, (.val (.sl 2 (.int .i64)))), (1, (.val (.fn 99 .un))), (7, (.val (.int .i64))), (8, (.val (.int .i64)))], [], []⟩
def slices_IndexFunc_int64__impl_ValidSimplex_1_l0_x0 : Head := ⟨[], [], []⟩
def slices_IndexFunc_int64__impl_ValidSimplex_1_l0_F (k n : Nat) (x : slices_IndexFunc_int64__impl_ValidSimplex_1_l0_h.T) (kx : Nat → St → Option Int) : Option Int := slices_IndexFunc_int64__impl_ValidSimplex_1_l0 k n x.1.1 x.1.2.1 x.1.2.2.1 x.1.2.2.2.1 (kx 0 (slices_IndexFunc_int64__impl_ValidSimplex_1_l0_x0.fill ((), (), ())))
def slices_IndexFunc_int64__impl_ValidSimplex_1_O (k : Nat) : Oracles Int := ⟨fun n => bif Nat.beq n 2 then some (fun σ kx => slices_IndexFunc_int64__impl_ValidSimplex_1_l0_h.get σ fun x => slices_IndexFunc_int64__impl_ValidSimplex_1_l0_F k k x kx) else none, fun _ => none⟩
def fe_slices_IndexFunc_int64__impl_ValidSimplex_1 (k : Nat) : FE := ⟨(.pr (.sl 2 (.int .i64)) (.fn 99 .un)), 1, (.int .i64), fun x => slices_IndexFunc_int64__impl_ValidSimplex_1 k x.1 x.2⟩
theorem slices_IndexFunc_int64__impl_ValidSimplex_1_l0_ok (k : Nat) : LoopOK (mkEnv ti [(99, fe_impl_ValidSimplex_1)] (lk []) pins0 pinB0) (slices_IndexFunc_int64__impl_ValidSimplex_1_O k) (rdC (mkEnv ti [(99, fe_impl_ValidSimplex_1)] (lk []) pins0 pinB0) [.tmp 4] (.int .i64)) ((loopsOf (codeOf Tryz.f106)).getD 0 .skip) (fun σ kx => slices_IndexFunc_int64__impl_ValidSimplex_1_l0_h.get σ fun x => slices_IndexFunc_int64__impl_ValidSimplex_1_l0_F k k x kx) := by
  refine ⟨slices_IndexFunc_int64__impl_ValidSimplex_1_l0_h, [(0, slices_IndexFunc_int64__impl_ValidSimplex_1_l0_x0)], fun n x kx => slices_IndexFunc_int64__impl_ValidSimplex_1_l0_F k n x kx, k, by kernel_rfl, by kernel_rfl, fun x kx => by kernel_rfl, ?_, fun σ kx => rfl⟩
  rintro n ⟨⟨s0, f1, x7, x8, ⟨⟩⟩, ⟨⟩, ⟨⟩⟩ kx
  kernel_rfl
theorem ok_slices_IndexFunc_int64__impl_ValidSimplex_1 (k : Nat) : FnOK Tryz.prog 106 (fe_slices_IndexFunc_int64__impl_ValidSimplex_1 k) := by
  refine closed_ok (tab := [(99, fe_impl_ValidSimplex_1)]) (l := []) ti_ok ti_ht mix (List.forall_mem_cons.2 ⟨ok_impl_ValidSimplex_1, (List.forall_mem_nil _)⟩) (List.forall_mem_nil _) ⟨⟨Tryz.f106, (codeOf Tryz.f106), [.tmp 4], (slices_IndexFunc_int64__impl_ValidSimplex_1_O k), by kernel_rfl, by kernel_rfl, by kernel_rfl, by kernel_rfl, rfl, by decide, ⟨by kernel_rfl, ?_, ?_⟩, ?_⟩⟩
  · refine loops_of (n := 1) (by kernel_rfl) fun i hi => ?_
    match i, hi with
    | 0, _ => exact loop_of (by kernel_rfl) (slices_IndexFunc_int64__impl_ValidSimplex_1_l0_ok k)
    | n + 1, hi => omega
  · exact no_cuts (by kernel_rfl)
  · rintro ⟨s0, f1⟩
    kernel_rfl
/- 80 slices.ContainsFunc[[]int64,int64] -/
def slices_ContainsFunc_int64__impl_ValidSimplex_1 (k : Nat) (s0 : List Int) (f1 : Unit) : Option Bool := (slices_IndexFunc_int64__impl_ValidSimplex_1 k s0 f1).bind fun r_1 => some (decide (0 ≤ r_1))
def fe_slices_ContainsFunc_int64__impl_ValidSimplex_1 (k : Nat) : FE := ⟨(.pr (.sl 2 (.int .i64)) (.fn 99 .un)), 1, .bool, fun x => slices_ContainsFunc_int64__impl_ValidSimplex_1 k x.1 x.2⟩
theorem ok_slices_ContainsFunc_int64__impl_ValidSimplex_1 (k : Nat) : FnOK Tryz.prog 80 (fe_slices_ContainsFunc_int64__impl_ValidSimplex_1 k) := by
  refine closed_ok (tab := [(106, fe_slices_IndexFunc_int64__impl_ValidSimplex_1 k)]) (l := []) ti_ok ti_ht mix (List.forall_mem_cons.2 ⟨ok_slices_IndexFunc_int64__impl_ValidSimplex_1 k, (List.forall_mem_nil _)⟩) (List.forall_mem_nil _) ⟨⟨Tryz.f80, (codeOf Tryz.f80), [.tmp 4], (LOn Bool), by kernel_rfl, by kernel_rfl, by kernel_rfl, by kernel_rfl, rfl, by decide, ⟨by kernel_rfl, ?_, ?_⟩, ?_⟩⟩
  · exact no_loops (by kernel_rfl)
  · exact no_cuts (by kernel_rfl)
  · rintro ⟨s0, f1⟩
    kernel_rfl
/- 74 loop.example/g01005/impl.ValidSimplex -/
def impl_ValidSimplex (k : Nat) (s0 : List Int) : Option Bool := (if (decide (1 ≤ (List.length s0 : Int))) = true then (if (decide ((List.length s0 : Int) ≤ 4)) = true then (impl_isRising k s0).bind fun r_1 => (if r_1 = true then (slices_ContainsFunc_int64__impl_ValidSimplex_1 k s0 ()).bind fun r_2 => some (!r_2) else some false) else some false) else some false)
def fe_impl_ValidSimplex (k : Nat) : FE := ⟨(.sl 2 (.int .i64)), 1, .bool, fun x => impl_ValidSimplex k x⟩
theorem ok_impl_ValidSimplex (k : Nat) : FnOK Tryz.prog 74 (fe_impl_ValidSimplex k) := by
  refine closed_ok (tab := [(98, fe_impl_isRising k), (80, fe_slices_ContainsFunc_int64__impl_ValidSimplex_1 k)]) (l := []) ti_ok ti_ht mix (List.forall_mem_cons.2 ⟨ok_impl_isRising k, (List.forall_mem_cons.2 ⟨ok_slices_ContainsFunc_int64__impl_ValidSimplex_1 k, (List.forall_mem_nil _)⟩)⟩) (List.forall_mem_nil _) ⟨⟨Tryz.f74, (codeOf Tryz.f74), [.tmp 2], (LOn Bool), by kernel_rfl, by kernel_rfl, by kernel_rfl, by kernel_rfl, rfl, by decide, ⟨by kernel_rfl, ?_, ?_⟩, ?_⟩⟩
  · exact no_loops (by kernel_rfl)
  · exact no_cuts (by kernel_rfl)
  · rintro s0
    kernel_rfl
/- 111 cmp.isNaN[int] -/
def cmp_isNaN_int (x0 : Int) : Option Bool := some (!(decide (x0 = x0)))
def fe_cmp_isNaN_int : FE := ⟨(.int .i64), 1, .bool, fun x => cmp_isNaN_int x⟩
theorem ok_cmp_isNaN_int : FnOK Tryz.prog 111 (fe_cmp_isNaN_int) := by
  refine closed_ok (tab := []) (l := []) ti_ok ti_ht mix (List.forall_mem_nil _) (List.forall_mem_nil _) ⟨⟨Tryz.f111, (codeOf Tryz.f111), [.tmp 2], (LOn Bool), by kernel_rfl, by kernel_rfl, by kernel_rfl, by kernel_rfl, rfl, by decide, ⟨by kernel_rfl, ?_, ?_⟩, ?_⟩⟩
  · exact no_loops (by kernel_rfl)
  · exact no_cuts (by kernel_rfl)
  · rintro x0
    kernel_rfl
/- 101 cmp.Compare[int] -/
def cmp_Compare_int (x0 : Int) (y1 : Int) : Option Int := (cmp_isNaN_int x0).bind fun r_1 => (cmp_isNaN_int y1).bind fun r_2 => (if r_1 = true then (if r_2 = true then some 0 else some (-1)) else (if r_2 = true then some 1 else (if (decide (x0 < y1)) = true then some (-1) else (if (decide (y1 < x0)) = true then some 1 else some 0))))
def fe_cmp_Compare_int : FE := ⟨(.pr (.int .i64) (.int .i64)), 1, (.int .i64), fun x => cmp_Compare_int x.1 x.2⟩
theorem ok_cmp_Compare_int : FnOK Tryz.prog 101 (fe_cmp_Compare_int) := by
  refine closed_ok (tab := [(111, fe_cmp_isNaN_int)]) (l := []) ti_ok ti_ht mix (List.forall_mem_cons.2 ⟨ok_cmp_isNaN_int, (List.forall_mem_nil _)⟩) (List.forall_mem_nil _) ⟨⟨Tryz.f101, (codeOf Tryz.f101), [.tmp 4], (LOn Int), by kernel_rfl, by kernel_rfl, by kernel_rfl, by kernel_rfl, rfl, by decide, ⟨by kernel_rfl, ?_, ?_⟩, ?_⟩⟩
  · exact no_loops (by kernel_rfl)
  · exact no_cuts (by kernel_rfl)
  · rintro ⟨x0, y1⟩
    kernel_rfl
/- 85 cmp.isNaN[int64] -/
def cmp_isNaN_int64 (x0 : Int) : Option Bool := some (!(decide (x0 = x0)))
def fe_cmp_isNaN_int64 : FE := ⟨(.int .i64), 1, .bool, fun x => cmp_isNaN_int64 x⟩
theorem ok_cmp_isNaN_int64 : FnOK Tryz.prog 85 (fe_cmp_isNaN_int64) := by
  refine closed_ok (tab := []) (l := []) ti_ok ti_ht mix (List.forall_mem_nil _) (List.forall_mem_nil _) ⟨⟨Tryz.f85, (codeOf Tryz.f85), [.tmp 2], (LOn Bool), by kernel_rfl, by kernel_rfl, by kernel_rfl, by kernel_rfl, rfl, by decide, ⟨by kernel_rfl, ?_, ?_⟩, ?_⟩⟩
  · exact no_loops (by kernel_rfl)
  · exact no_cuts (by kernel_rfl)
  · rintro x0
    kernel_rfl
end
end Go.Proofs.YtankbidchgcapaaGreat.Ev
