/- Functions of the program, as plain ones. No conditions. -/
import Derived.Test.YtackggcodaolaaaG5
import Derived.KernelRfl
set_option linter.unusedVariables false
set_option maxRecDepth 100000
namespace Go.Proofs.Ytackggcodaolaaa.Ev
open Go.RowKit
noncomputable section
/- 123 loop.example/g01005/spec.l28Ask -/
def spec_l28Ask (k : Nat) (list0 : List (List UInt8 × List (List UInt8) × Int × Int)) (name1 : List UInt8) : Option Int := (spec_l28Ok k list0).bind fun r_1 => (if (!r_1) = true then some 1 else (spec_l28Find k list0 name1).bind fun r_2 => (if (decide (r_2 < 0)) = true then some 3 else some 0))
def fe_spec_l28Ask (k : Nat) : FE := ⟨(.pr (.sl 156 (.st (.pr .str (.pr (.sl 9 .str) (.pr (.int .i64) (.int .i64)))))) .str), 1, (.int .i64), fun x => spec_l28Ask k x.1 x.2⟩
theorem ok_spec_l28Ask (k : Nat) : FnOK Try.prog 123 (fe_spec_l28Ask k) := by
  refine closed_ok (tab := [(115, fe_spec_l28Ok k), (125, fe_spec_l28Find k)]) (l := []) ti_ok ti_ht mix (List.forall_mem_cons.2 ⟨ok_spec_l28Ok k, (List.forall_mem_cons.2 ⟨ok_spec_l28Find k, (List.forall_mem_nil _)⟩)⟩) (List.forall_mem_nil _) ⟨⟨Try.f123, (codeOf Try.f123), [.tmp 4], (LOn Int), by kernel_rfl, by kernel_rfl, by kernel_rfl, by kernel_rfl, rfl, by decide, ⟨by kernel_rfl, ?_, ?_⟩, ?_⟩⟩
  · exact no_loops (by kernel_rfl)
  · exact no_cuts (by kernel_rfl)
  · rintro ⟨list0, name1⟩
    kernel_rfl
/- 124 loop.example/g01005/spec.l28Reach -/
def spec_l28Reach_l2 (k : Nat) : Nat → (List (List UInt8 × List (List UInt8) × Int × Int)) → Int → Int → Int → Int → (List Bool) → ((List (List UInt8 × List (List UInt8) × Int × Int)) → Int → Int → Int → (List Bool) → Option (List Bool)) → Option (List Bool)
  | 0, _, _, _, _, _, _, _ => none
  | n + 1, list0, at1, turn6, i7, k8, q_3, e_4 => (if 0 ≤ i7 then (list0[i7.toNat]?).bind fun y_4 => (if (decide (k8 < (List.length y_4.2.1 : Int))) = true then (if (decide (i7 = at1)) = true then (if 0 ≤ i7 then (list0[i7.toNat]?).bind fun y_5 => (if 0 ≤ k8 then (y_5.2.1[k8.toNat]?).bind fun y_6 => (spec_l28Find k list0 y_6).bind fun r_7 => (if 0 ≤ r_7 ∧ r_7.toNat < List.length q_3 then (q_3[r_7.toNat]?).bind fun y_8 => (q_3[r_7.toNat]?).bind fun y_9 => spec_l28Reach_l2 k n list0 at1 turn6 i7 (w_i64 (k8 + 1)) (q_3.set r_7.toNat true) e_4 else none) else none) else none) else (if 0 ≤ i7 ∧ i7.toNat < List.length q_3 then (q_3[i7.toNat]?).bind fun y_10 => (if y_10 = true then (if 0 ≤ i7 then (list0[i7.toNat]?).bind fun y_11 => (if 0 ≤ k8 then (y_11.2.1[k8.toNat]?).bind fun y_12 => (spec_l28Find k list0 y_12).bind fun r_13 => (if 0 ≤ r_13 ∧ r_13.toNat < List.length q_3 then (q_3[r_13.toNat]?).bind fun y_14 => (q_3[r_13.toNat]?).bind fun y_15 => spec_l28Reach_l2 k n list0 at1 turn6 i7 (w_i64 (k8 + 1)) (q_3.set r_13.toNat true) e_4 else none) else none) else none) else e_4 list0 at1 turn6 i7 q_3) else none)) else e_4 list0 at1 turn6 i7 q_3) else none)
def spec_l28Reach_l1 (k : Nat) : Nat → (List (List UInt8 × List (List UInt8) × Int × Int)) → Int → Int → Int → (List Bool) → ((List (List UInt8 × List (List UInt8) × Int × Int)) → Int → Int → (List Bool) → Option (List Bool)) → Option (List Bool)
  | 0, _, _, _, _, _, _ => none
  | n + 1, list0, at1, turn6, i7, q_2, e_2 => (if (decide (i7 < (List.length list0 : Int))) = true then spec_l28Reach_l2 k k list0 at1 turn6 i7 0 q_2 (fun list_3 at_4 turn_5 i_6 q_7 => spec_l28Reach_l1 k n list_3 at_4 turn_5 (w_i64 (i_6 + 1)) q_7 e_2) else e_2 list0 at1 turn6 q_2)
def spec_l28Reach_l0 (k : Nat) : Nat → (List (List UInt8 × List (List UInt8) × Int × Int)) → Int → Int → (List Bool) → ((List Bool) → Option (List Bool)) → Option (List Bool)
  | 0, _, _, _, _, _ => none
  | n + 1, list0, at1, turn6, q_1, e_0 => (if (decide (turn6 < (List.length list0 : Int))) = true then spec_l28Reach_l1 k k list0 at1 turn6 0 q_1 (fun list_2 at_3 turn_4 q_5 => spec_l28Reach_l0 k n list_2 at_3 (w_i64 (turn_4 + 1)) q_5 e_0) else e_0 q_1)
def spec_l28Reach (k : Nat) (list0 : List (List UInt8 × List (List UInt8) × Int × Int)) (at1 : Int) : Option (List Bool) := (if 0 ≤ (List.length list0 : Int) ∧ (List.length list0 : Int) ≤ (List.length list0 : Int) ∧ (List.length list0 : Int) * 1 ≤ LIM then spec_l28Reach_l0 k k list0 at1 0 (List.replicate (List.length list0) false) (fun q_6 => some q_6) else none)
def spec_l28Reach_l2_h : Head := ⟨[(0, (.val (.sl 156 (.st (.pr .str (.pr (.sl 9 .str) (.pr (.int .i64) (.int .i64)))))))), (1, (.val (.int .i64))), (5, (.ref 64000000 [])), (6, (.val (.int .i64))), (7, (.val (.int .i64))), (8, (.val (.int .i64)))], [(64000000, 4, .bool, false)], []⟩
def spec_l28Reach_l2_x4 : Head := ⟨[(0, (.val (.sl 156 (.st (.pr .str (.pr (.sl 9 .str) (.pr (.int .i64) (.int .i64)))))))), (1, (.val (.int .i64))), (5, (.ref 64000000 [])), (6, (.val (.int .i64))), (7, (.val (.int .i64)))], [(64000000, 4, .bool, false)], []⟩
def spec_l28Reach_l2_F (k n : Nat) (x : spec_l28Reach_l2_h.T) (kx : Nat → St → Option (List Bool)) : Option (List Bool) := spec_l28Reach_l2 k n x.1.1 x.1.2.1 x.1.2.2.2.1 x.1.2.2.2.2.1 x.1.2.2.2.2.2.1 x.2.1.1 (fun (list0 : List (List UInt8 × List (List UInt8) × Int × Int)) (at1 : Int) (turn6 : Int) (i7 : Int) (q_16 : List Bool) => kx 4 (spec_l28Reach_l2_x4.fill ((list0, at1, (), turn6, i7, ()), (q_16, ()), ())))
def spec_l28Reach_l1_h : Head := ⟨[(0, (.val (.sl 156 (.st (.pr .str (.pr (.sl 9 .str) (.pr (.int .i64) (.int .i64)))))))), (1, (.val (.int .i64))), (5, (.ref 64000000 [])), (6, (.val (.int .i64))), (7, (.val (.int .i64)))], [(64000000, 4, .bool, false)], []⟩
def spec_l28Reach_l1_x2 : Head := ⟨[(0, (.val (.sl 156 (.st (.pr .str (.pr (.sl 9 .str) (.pr (.int .i64) (.int .i64)))))))), (1, (.val (.int .i64))), (5, (.ref 64000000 [])), (6, (.val (.int .i64)))], [(64000000, 4, .bool, false)], []⟩
def spec_l28Reach_l1_F (k n : Nat) (x : spec_l28Reach_l1_h.T) (kx : Nat → St → Option (List Bool)) : Option (List Bool) := spec_l28Reach_l1 k n x.1.1 x.1.2.1 x.1.2.2.2.1 x.1.2.2.2.2.1 x.2.1.1 (fun (list0 : List (List UInt8 × List (List UInt8) × Int × Int)) (at1 : Int) (turn6 : Int) (q_21 : List Bool) => kx 2 (spec_l28Reach_l1_x2.fill ((list0, at1, (), turn6, ()), (q_21, ()), ())))
def spec_l28Reach_l0_h : Head := ⟨[(0, (.val (.sl 156 (.st (.pr .str (.pr (.sl 9 .str) (.pr (.int .i64) (.int .i64)))))))), (1, (.val (.int .i64))), (5, (.ref 64000000 [])), (6, (.val (.int .i64)))], [(64000000, 4, .bool, false)], []⟩
def spec_l28Reach_l0_x0 : Head := ⟨[(5, (.ref 64000000 []))], [(64000000, 4, .bool, false)], []⟩
def spec_l28Reach_l0_F (k n : Nat) (x : spec_l28Reach_l0_h.T) (kx : Nat → St → Option (List Bool)) : Option (List Bool) := spec_l28Reach_l0 k n x.1.1 x.1.2.1 x.1.2.2.2.1 x.2.1.1 (fun (q_12 : List Bool) => kx 0 (spec_l28Reach_l0_x0.fill (((), ()), (q_12, ()), ())))
def spec_l28Reach_O (k : Nat) : Oracles (List Bool) := ⟨fun n => bif Nat.beq n 9 then some (fun σ kx => spec_l28Reach_l2_h.get σ fun x => spec_l28Reach_l2_F k k x kx) else bif Nat.beq n 6 then some (fun σ kx => spec_l28Reach_l1_h.get σ fun x => spec_l28Reach_l1_F k k x kx) else bif Nat.beq n 3 then some (fun σ kx => spec_l28Reach_l0_h.get σ fun x => spec_l28Reach_l0_F k k x kx) else none, fun _ => none⟩
def fe_spec_l28Reach (k : Nat) : FE := ⟨(.pr (.sl 156 (.st (.pr .str (.pr (.sl 9 .str) (.pr (.int .i64) (.int .i64)))))) (.int .i64)), 1, (.sl 4 .bool), fun x => spec_l28Reach k x.1 x.2⟩
theorem spec_l28Reach_l2_ok (k : Nat) : LoopOK (mkEnv ti [(125, fe_spec_l28Find k)] (lk []) pins0 pinB0) (spec_l28Reach_O k) (rdC (mkEnv ti [(125, fe_spec_l28Find k)] (lk []) pins0 pinB0) [.tmp 4] (.sl 4 .bool)) ((loopsOf (codeOf Try.f124)).getD 2 .skip) (fun σ kx => spec_l28Reach_l2_h.get σ fun x => spec_l28Reach_l2_F k k x kx) := by
  refine ⟨spec_l28Reach_l2_h, [(4, spec_l28Reach_l2_x4)], fun n x kx => spec_l28Reach_l2_F k n x kx, k, by kernel_rfl, by kernel_rfl, fun x kx => by kernel_rfl, ?_, fun σ kx => rfl⟩
  rintro n ⟨⟨list0, at1, ⟨⟩, turn6, i7, k8, ⟨⟩⟩, ⟨q_3, ⟨⟩⟩, ⟨⟩⟩ kx
  kernel_rfl
theorem spec_l28Reach_l1_ok (k : Nat) : LoopOK (mkEnv ti [(125, fe_spec_l28Find k)] (lk []) pins0 pinB0) (spec_l28Reach_O k) (rdC (mkEnv ti [(125, fe_spec_l28Find k)] (lk []) pins0 pinB0) [.tmp 4] (.sl 4 .bool)) ((loopsOf (codeOf Try.f124)).getD 1 .skip) (fun σ kx => spec_l28Reach_l1_h.get σ fun x => spec_l28Reach_l1_F k k x kx) := by
  refine ⟨spec_l28Reach_l1_h, [(2, spec_l28Reach_l1_x2)], fun n x kx => spec_l28Reach_l1_F k n x kx, k, by kernel_rfl, by kernel_rfl, fun x kx => by kernel_rfl, ?_, fun σ kx => rfl⟩
  rintro n ⟨⟨list0, at1, ⟨⟩, turn6, i7, ⟨⟩⟩, ⟨q_2, ⟨⟩⟩, ⟨⟩⟩ kx
  kernel_rfl
theorem spec_l28Reach_l0_ok (k : Nat) : LoopOK (mkEnv ti [(125, fe_spec_l28Find k)] (lk []) pins0 pinB0) (spec_l28Reach_O k) (rdC (mkEnv ti [(125, fe_spec_l28Find k)] (lk []) pins0 pinB0) [.tmp 4] (.sl 4 .bool)) ((loopsOf (codeOf Try.f124)).getD 0 .skip) (fun σ kx => spec_l28Reach_l0_h.get σ fun x => spec_l28Reach_l0_F k k x kx) := by
  refine ⟨spec_l28Reach_l0_h, [(0, spec_l28Reach_l0_x0)], fun n x kx => spec_l28Reach_l0_F k n x kx, k, by kernel_rfl, by kernel_rfl, fun x kx => by kernel_rfl, ?_, fun σ kx => rfl⟩
  rintro n ⟨⟨list0, at1, ⟨⟩, turn6, ⟨⟩⟩, ⟨q_1, ⟨⟩⟩, ⟨⟩⟩ kx
  kernel_rfl
theorem ok_spec_l28Reach (k : Nat) : FnOK Try.prog 124 (fe_spec_l28Reach k) := by
  refine closed_ok (tab := [(125, fe_spec_l28Find k)]) (l := []) ti_ok ti_ht mix (List.forall_mem_cons.2 ⟨ok_spec_l28Find k, (List.forall_mem_nil _)⟩) (List.forall_mem_nil _) ⟨⟨Try.f124, (codeOf Try.f124), [.tmp 4], (spec_l28Reach_O k), by kernel_rfl, by kernel_rfl, by kernel_rfl, by kernel_rfl, rfl, by decide, ⟨by kernel_rfl, ?_, ?_⟩, ?_⟩⟩
  · refine loops_of (n := 3) (by kernel_rfl) fun i hi => ?_
    match i, hi with
    | 0, _ => exact loop_of (by kernel_rfl) (spec_l28Reach_l0_ok k)
    | 1, _ => exact loop_of (by kernel_rfl) (spec_l28Reach_l1_ok k)
    | 2, _ => exact loop_of (by kernel_rfl) (spec_l28Reach_l2_ok k)
    | n + 3, hi => omega
  · exact no_cuts (by kernel_rfl)
  · rintro ⟨list0, at1⟩
    kernel_rfl
/- 116 loop.example/g01005/spec.l28Names -/
def spec_l28Names_l0 (k : Nat) : Nat → (List (List UInt8 × List (List UInt8) × Int × Int)) → (List Bool) → Int → (List (List UInt8)) → ((List (List UInt8)) → Option (List (List UInt8))) → Option (List (List UInt8))
  | 0, _, _, _, _, _ => none
  | n + 1, list0, chosen1, i6, q_1, e_0 => (if (decide (i6 < (List.length list0 : Int))) = true then (if 0 ≤ i6 then (chosen1[i6.toNat]?).bind fun y_2 => (if y_2 = true then (if 0 ≤ i6 then (list0[i6.toNat]?).bind fun y_3 => (if (q_1.length + [y_3.1].length) * 16 ≤ LIM then spec_l28Names_l0 k n list0 chosen1 (w_i64 (i6 + 1)) (q_1 ++ [y_3.1]) e_0 else none) else none) else spec_l28Names_l0 k n list0 chosen1 (w_i64 (i6 + 1)) q_1 e_0) else none) else e_0 q_1)
def spec_l28Names (k : Nat) (list0 : List (List UInt8 × List (List UInt8) × Int × Int)) (chosen1 : List Bool) : Option (List (List UInt8)) := spec_l28Names_l0 k k list0 chosen1 0 [] (fun q_4 => some q_4)
def spec_l28Names_l0_h : Head := ⟨[(0, (.val (.sl 156 (.st (.pr .str (.pr (.sl 9 .str) (.pr (.int .i64) (.int .i64)))))))), (1, (.val (.sl 4 .bool))), (5, (.ref 64000000 [])), (6, (.val (.int .i64)))], [(64000000, 9, .str, false)], []⟩
def spec_l28Names_l0_x0 : Head := ⟨[(5, (.ref 64000000 []))], [(64000000, 9, .str, false)], []⟩
def spec_l28Names_l0_F (k n : Nat) (x : spec_l28Names_l0_h.T) (kx : Nat → St → Option (List (List UInt8))) : Option (List (List UInt8)) := spec_l28Names_l0 k n x.1.1 x.1.2.1 x.1.2.2.2.1 x.2.1.1 (fun (q_4 : List (List UInt8)) => kx 0 (spec_l28Names_l0_x0.fill (((), ()), (q_4, ()), ())))
def spec_l28Names_O (k : Nat) : Oracles (List (List UInt8)) := ⟨fun n => bif Nat.beq n 3 then some (fun σ kx => spec_l28Names_l0_h.get σ fun x => spec_l28Names_l0_F k k x kx) else none, fun _ => none⟩
def fe_spec_l28Names (k : Nat) : FE := ⟨(.pr (.sl 156 (.st (.pr .str (.pr (.sl 9 .str) (.pr (.int .i64) (.int .i64)))))) (.sl 4 .bool)), 1, (.sl 9 .str), fun x => spec_l28Names k x.1 x.2⟩
theorem spec_l28Names_l0_ok (k : Nat) : LoopOK (mkEnv ti [] (lk []) pins0 pinB0) (spec_l28Names_O k) (rdC (mkEnv ti [] (lk []) pins0 pinB0) [.tmp 4] (.sl 9 .str)) ((loopsOf (codeOf Try.f116)).getD 0 .skip) (fun σ kx => spec_l28Names_l0_h.get σ fun x => spec_l28Names_l0_F k k x kx) := by
  refine ⟨spec_l28Names_l0_h, [(0, spec_l28Names_l0_x0)], fun n x kx => spec_l28Names_l0_F k n x kx, k, by kernel_rfl, by kernel_rfl, fun x kx => by kernel_rfl, ?_, fun σ kx => rfl⟩
  rintro n ⟨⟨list0, chosen1, ⟨⟩, i6, ⟨⟩⟩, ⟨q_1, ⟨⟩⟩, ⟨⟩⟩ kx
  kernel_rfl
theorem ok_spec_l28Names (k : Nat) : FnOK Try.prog 116 (fe_spec_l28Names k) := by
  refine closed_ok (tab := []) (l := []) ti_ok ti_ht mix (List.forall_mem_nil _) (List.forall_mem_nil _) ⟨⟨Try.f116, (codeOf Try.f116), [.tmp 4], (spec_l28Names_O k), by kernel_rfl, by kernel_rfl, by kernel_rfl, by kernel_rfl, rfl, by decide, ⟨by kernel_rfl, ?_, ?_⟩, ?_⟩⟩
  · refine loops_of (n := 1) (by kernel_rfl) fun i hi => ?_
    match i, hi with
    | 0, _ => exact loop_of (by kernel_rfl) (spec_l28Names_l0_ok k)
    | n + 1, hi => omega
  · exact no_cuts (by kernel_rfl)
  · rintro ⟨list0, chosen1⟩
    kernel_rfl
/- 51 loop.example/g01005/spec.AllNeeds -/
def spec_AllNeeds (k : Nat) (list0 : List (List UInt8 × List (List UInt8) × Int × Int)) (name1 : List UInt8) : Option (List (List UInt8) × Int) := (spec_l28Ask k list0 name1).bind fun r_1 => (if (!(decide (r_1 = 0))) = true then some ([], r_1) else (spec_l28Find k list0 name1).bind fun r_2 => (spec_l28Reach k list0 r_2).bind fun r_3 => (spec_l28Names k list0 r_3).bind fun r_4 => some (r_4, 0))
def fe_spec_AllNeeds (k : Nat) : FE := ⟨(.pr (.sl 156 (.st (.pr .str (.pr (.sl 9 .str) (.pr (.int .i64) (.int .i64)))))) .str), 2, (.pr (.sl 9 .str) (.int .i64)), fun x => spec_AllNeeds k x.1 x.2⟩
theorem ok_spec_AllNeeds (k : Nat) : FnOK Try.prog 51 (fe_spec_AllNeeds k) := by
  refine closed_ok (tab := [(123, fe_spec_l28Ask k), (125, fe_spec_l28Find k), (124, fe_spec_l28Reach k), (116, fe_spec_l28Names k)]) (l := []) ti_ok ti_ht mix (List.forall_mem_cons.2 ⟨ok_spec_l28Ask k, (List.forall_mem_cons.2 ⟨ok_spec_l28Find k, (List.forall_mem_cons.2 ⟨ok_spec_l28Reach k, (List.forall_mem_cons.2 ⟨ok_spec_l28Names k, (List.forall_mem_nil _)⟩)⟩)⟩)⟩) (List.forall_mem_nil _) ⟨⟨Try.f51, (codeOf Try.f51), [.tmp 4, .tmp 5], (LOn (List (List UInt8) × Int)), by kernel_rfl, by kernel_rfl, by kernel_rfl, by kernel_rfl, rfl, by decide, ⟨by kernel_rfl, ?_, ?_⟩, ?_⟩⟩
  · exact no_loops (by kernel_rfl)
  · exact no_cuts (by kernel_rfl)
  · rintro ⟨list0, name1⟩
    kernel_rfl
/- 133 loop.example/g01005/impl.IsName -/
def impl_IsName_l0 (k : Nat) : Nat → Int → Int → (List Int) → (Option Bool) → Option Bool
  | 0, _, _, _, _ => none
  | n + 1, x17, x18, q_1, e_0 => (if (decide (x18 < x17)) = true then (if 0 ≤ x18 ∧ x18.toNat < List.length q_1 then (q_1[x18.toNat]?).bind fun y_2 => (if (decide (97 ≤ y_2)) = true then (if (decide (48 ≤ y_2)) = true then (if (!(decide (y_2 ≤ 122))) = true then (if (decide (x18 = 0)) = true then some false else (if (!(decide (y_2 ≤ 57))) = true then some false else impl_IsName_l0 k n x17 (w_i64 (x18 + 1)) q_1 e_0)) else impl_IsName_l0 k n x17 (w_i64 (x18 + 1)) q_1 e_0) else (if (!(decide (y_2 ≤ 122))) = true then (if (decide (x18 = 0)) = true then some false else some false) else impl_IsName_l0 k n x17 (w_i64 (x18 + 1)) q_1 e_0)) else (if (decide (48 ≤ y_2)) = true then (if (decide (x18 = 0)) = true then some false else (if (!(decide (y_2 ≤ 57))) = true then some false else impl_IsName_l0 k n x17 (w_i64 (x18 + 1)) q_1 e_0)) else (if (decide (x18 = 0)) = true then some false else some false))) else none) else e_0)
def impl_IsName (k : Nat) (s0 : List UInt8) : Option Bool := (if (decide ((List.length s0 : Int) < 1)) = true then some false else (if (decide (10 < (List.length s0 : Int))) = true then some false else (if s0.length ≤ LIM then impl_IsName_l0 k k (List.length (of_S s0) : Int) 0 (of_S s0) (some true) else none)))
def impl_IsName_l0_h : Head := ⟨[(16, (.ref 64000000 [])), (17, (.val (.int .i64))), (18, (.val (.int .i64)))], [(64000000, 5, (.int .u8), true)], []⟩
def impl_IsName_l0_x0 : Head := ⟨[], [], []⟩
def impl_IsName_l0_F (k n : Nat) (x : impl_IsName_l0_h.T) (kx : Nat → St → Option Bool) : Option Bool := impl_IsName_l0 k n x.1.2.1 x.1.2.2.1 x.2.1.1 (kx 0 (impl_IsName_l0_x0.fill ((), (), ())))
def impl_IsName_O (k : Nat) : Oracles Bool := ⟨fun n => bif Nat.beq n 4 then some (fun σ kx => impl_IsName_l0_h.get σ fun x => impl_IsName_l0_F k k x kx) else none, fun _ => none⟩
def fe_impl_IsName (k : Nat) : FE := ⟨.str, 1, .bool, fun x => impl_IsName k x⟩
theorem impl_IsName_l0_ok (k : Nat) : LoopOK (mkEnv ti [] (lk []) pins0 pinB0) (impl_IsName_O k) (rdC (mkEnv ti [] (lk []) pins0 pinB0) [.tmp 2] .bool) ((loopsOf (codeOf Try.f133)).getD 0 .skip) (fun σ kx => impl_IsName_l0_h.get σ fun x => impl_IsName_l0_F k k x kx) := by
  refine ⟨impl_IsName_l0_h, [(0, impl_IsName_l0_x0)], fun n x kx => impl_IsName_l0_F k n x kx, k, by kernel_rfl, by kernel_rfl, fun x kx => by kernel_rfl, ?_, fun σ kx => rfl⟩
  rintro n ⟨⟨⟨⟩, x17, x18, ⟨⟩⟩, ⟨q_1, ⟨⟩⟩, ⟨⟩⟩ kx
  kernel_rfl
theorem ok_impl_IsName (k : Nat) : FnOK Try.prog 133 (fe_impl_IsName k) := by
  refine closed_ok (tab := []) (l := []) ti_ok ti_ht mix (List.forall_mem_nil _) (List.forall_mem_nil _) ⟨⟨Try.f133, (codeOf Try.f133), [.tmp 2], (impl_IsName_O k), by kernel_rfl, by kernel_rfl, by kernel_rfl, by kernel_rfl, rfl, by decide, ⟨by kernel_rfl, ?_, ?_⟩, ?_⟩⟩
  · refine loops_of (n := 1) (by kernel_rfl) fun i hi => ?_
    match i, hi with
    | 0, _ => exact loop_of (by kernel_rfl) (impl_IsName_l0_ok k)
    | n + 1, hi => omega
  · exact no_cuts (by kernel_rfl)
  · rintro s0
    kernel_rfl
/- 184 loop.example/g01005/impl.areNames -/
def impl_areNames_l0 (k : Nat) : Nat → (List (List UInt8)) → Int → (List (List UInt8)) → Int → Int → ((List (List UInt8)) → Int → Option Bool) → Option Bool
  | 0, _, _, _, _, _, _ => none
  | n + 1, names0, most1, x7, x8, x9, e_0 => (if (decide (x9 < x8)) = true then (if 0 ≤ x9 then (x7[x9.toNat]?).bind fun y_1 => (impl_IsName k y_1).bind fun r_2 => (if (!r_2) = true then some false else (if (decide (0 < x9)) = true then (if 0 ≤ (w_i64 (x9 - 1)) then (names0[(w_i64 (x9 - 1)).toNat]?).bind fun y_3 => (if (Op.bytesLess y_1 y_3 || decide (y_1 = y_3)) = true then some false else impl_areNames_l0 k n names0 most1 x7 x8 (w_i64 (x9 + 1)) e_0) else none) else impl_areNames_l0 k n names0 most1 x7 x8 (w_i64 (x9 + 1)) e_0)) else none) else e_0 names0 most1)
def impl_areNames (k : Nat) (names0 : List (List UInt8)) (most1 : Int) : Option Bool := impl_areNames_l0 k k names0 most1 names0 (List.length names0 : Int) 0 (fun names_4 most_5 => some (decide ((List.length names_4 : Int) ≤ most_5)))
def impl_areNames_l0_h : Head := ⟨[(0, (.val (.sl 9 .str))), (1, (.val (.int .i64))), (7, (.val (.sl 9 .str))), (8, (.val (.int .i64))), (9, (.val (.int .i64)))], [], []⟩
def impl_areNames_l0_x0 : Head := ⟨[(0, (.val (.sl 9 .str))), (1, (.val (.int .i64)))], [], []⟩
def impl_areNames_l0_F (k n : Nat) (x : impl_areNames_l0_h.T) (kx : Nat → St → Option Bool) : Option Bool := impl_areNames_l0 k n x.1.1 x.1.2.1 x.1.2.2.1 x.1.2.2.2.1 x.1.2.2.2.2.1 (fun (names0 : List (List UInt8)) (most1 : Int) => kx 0 (impl_areNames_l0_x0.fill ((names0, most1, ()), (), ())))
def impl_areNames_O (k : Nat) : Oracles Bool := ⟨fun n => bif Nat.beq n 2 then some (fun σ kx => impl_areNames_l0_h.get σ fun x => impl_areNames_l0_F k k x kx) else none, fun _ => none⟩
def fe_impl_areNames (k : Nat) : FE := ⟨(.pr (.sl 9 .str) (.int .i64)), 1, .bool, fun x => impl_areNames k x.1 x.2⟩
theorem impl_areNames_l0_ok (k : Nat) : LoopOK (mkEnv ti [(133, fe_impl_IsName k)] (lk []) pins0 pinB0) (impl_areNames_O k) (rdC (mkEnv ti [(133, fe_impl_IsName k)] (lk []) pins0 pinB0) [.tmp 4] .bool) ((loopsOf (codeOf Try.f184)).getD 0 .skip) (fun σ kx => impl_areNames_l0_h.get σ fun x => impl_areNames_l0_F k k x kx) := by
  refine ⟨impl_areNames_l0_h, [(0, impl_areNames_l0_x0)], fun n x kx => impl_areNames_l0_F k n x kx, k, by kernel_rfl, by kernel_rfl, fun x kx => by kernel_rfl, ?_, fun σ kx => rfl⟩
  rintro n ⟨⟨names0, most1, x7, x8, x9, ⟨⟩⟩, ⟨⟩, ⟨⟩⟩ kx
  kernel_rfl
theorem ok_impl_areNames (k : Nat) : FnOK Try.prog 184 (fe_impl_areNames k) := by
  refine closed_ok (tab := [(133, fe_impl_IsName k)]) (l := []) ti_ok ti_ht mix (List.forall_mem_cons.2 ⟨ok_impl_IsName k, (List.forall_mem_nil _)⟩) (List.forall_mem_nil _) ⟨⟨Try.f184, (codeOf Try.f184), [.tmp 4], (impl_areNames_O k), by kernel_rfl, by kernel_rfl, by kernel_rfl, by kernel_rfl, rfl, by decide, ⟨by kernel_rfl, ?_, ?_⟩, ?_⟩⟩
  · refine loops_of (n := 1) (by kernel_rfl) fun i hi => ?_
    match i, hi with
    | 0, _ => exact loop_of (by kernel_rfl) (impl_areNames_l0_ok k)
    | n + 1, hi => omega
  · exact no_cuts (by kernel_rfl)
  · rintro ⟨names0, most1⟩
    kernel_rfl
/- 185 loop.example/g01005/impl.within -/
def impl_within (n0 : Int) (low1 : Int) (high2 : Int) : Option Bool := (if (decide (low1 ≤ n0)) = true then some (decide (n0 ≤ high2)) else some false)
def fe_impl_within : FE := ⟨(.pr (.int .i64) (.pr (.int .i64) (.int .i64))), 1, .bool, fun x => impl_within x.1 x.2.1 x.2.2⟩
theorem ok_impl_within : FnOK Try.prog 185 (fe_impl_within) := by
  refine closed_ok (tab := []) (l := []) ti_ok ti_ht mix (List.forall_mem_nil _) (List.forall_mem_nil _) ⟨⟨Try.f185, (codeOf Try.f185), [.tmp 6], (LOn Bool), by kernel_rfl, by kernel_rfl, by kernel_rfl, by kernel_rfl, rfl, by decide, ⟨by kernel_rfl, ?_, ?_⟩, ?_⟩⟩
  · exact no_loops (by kernel_rfl)
  · exact no_cuts (by kernel_rfl)
  · rintro ⟨n0, low1, high2⟩
    kernel_rfl
/- 194 slices.Index[[]string,string] -/
def slices_Index_string_l0 (k : Nat) : Nat → (List (List UInt8)) → (List UInt8) → Int → Int → (Option Int) → Option Int
  | 0, _, _, _, _, _ => none
  | n + 1, s0, v1, x7, x8, e_0 => (if (decide (x8 < x7)) = true then (if 0 ≤ x8 then (s0[x8.toNat]?).bind fun y_1 => (if (decide (v1 = y_1)) = true then some x8 else slices_Index_string_l0 k n s0 v1 x7 (w_i64 (x8 + 1)) e_0) else none) else e_0)
def slices_Index_string (k : Nat) (s0 : List (List UInt8)) (v1 : List UInt8) : Option Int := slices_Index_string_l0 k k s0 v1 (List.length s0 : Int) 0 (some (-1))
def slices_Index_string_l0_h : Head := ⟨[(0, (.val (.sl 9 .str))), (1, (.val .str)), (7, (.val (.int .i64))), (8, (.val (.int .i64)))], [], []⟩
def slices_Index_string_l0_x0 : Head := ⟨[], [], []⟩
def slices_Index_string_l0_F (k n : Nat) (x : slices_Index_string_l0_h.T) (kx : Nat → St → Option Int) : Option Int := slices_Index_string_l0 k n x.1.1 x.1.2.1 x.1.2.2.1 x.1.2.2.2.1 (kx 0 (slices_Index_string_l0_x0.fill ((), (), ())))
def slices_Index_string_O (k : Nat) : Oracles Int := ⟨fun n => bif Nat.beq n 2 then some (fun σ kx => slices_Index_string_l0_h.get σ fun x => slices_Index_string_l0_F k k x kx) else none, fun _ => none⟩
def fe_slices_Index_string (k : Nat) : FE := ⟨(.pr (.sl 9 .str) .str), 1, (.int .i64), fun x => slices_Index_string k x.1 x.2⟩
theorem slices_Index_string_l0_ok (k : Nat) : LoopOK (mkEnv ti [] (lk []) pins0 pinB0) (slices_Index_string_O k) (rdC (mkEnv ti [] (lk []) pins0 pinB0) [.tmp 4] (.int .i64)) ((loopsOf (codeOf Try.f194)).getD 0 .skip) (fun σ kx => slices_Index_string_l0_h.get σ fun x => slices_Index_string_l0_F k k x kx) := by
  refine ⟨slices_Index_string_l0_h, [(0, slices_Index_string_l0_x0)], fun n x kx => slices_Index_string_l0_F k n x kx, k, by kernel_rfl, by kernel_rfl, fun x kx => by kernel_rfl, ?_, fun σ kx => rfl⟩
  rintro n ⟨⟨s0, v1, x7, x8, ⟨⟩⟩, ⟨⟩, ⟨⟩⟩ kx
  kernel_rfl
theorem ok_slices_Index_string (k : Nat) : FnOK Try.prog 194 (fe_slices_Index_string k) := by
  refine closed_ok (tab := []) (l := []) ti_ok ti_ht mix (List.forall_mem_nil _) (List.forall_mem_nil _) ⟨⟨Try.f194, (codeOf Try.f194), [.tmp 4], (slices_Index_string_O k), by kernel_rfl, by kernel_rfl, by kernel_rfl, by kernel_rfl, rfl, by decide, ⟨by kernel_rfl, ?_, ?_⟩, ?_⟩⟩
  · refine loops_of (n := 1) (by kernel_rfl) fun i hi => ?_
    match i, hi with
    | 0, _ => exact loop_of (by kernel_rfl) (slices_Index_string_l0_ok k)
    | n + 1, hi => omega
  · exact no_cuts (by kernel_rfl)
  · rintro ⟨s0, v1⟩
    kernel_rfl
/- 128 slices.Contains[[]string,string] -/
def slices_Contains_string (k : Nat) (s0 : List (List UInt8)) (v1 : List UInt8) : Option Bool := (slices_Index_string k s0 v1).bind fun r_1 => some (decide (0 ≤ r_1))
def fe_slices_Contains_string (k : Nat) : FE := ⟨(.pr (.sl 9 .str) .str), 1, .bool, fun x => slices_Contains_string k x.1 x.2⟩
theorem ok_slices_Contains_string (k : Nat) : FnOK Try.prog 128 (fe_slices_Contains_string k) := by
  refine closed_ok (tab := [(194, fe_slices_Index_string k)]) (l := []) ti_ok ti_ht mix (List.forall_mem_cons.2 ⟨ok_slices_Index_string k, (List.forall_mem_nil _)⟩) (List.forall_mem_nil _) ⟨⟨Try.f128, (codeOf Try.f128), [.tmp 4], (LOn Bool), by kernel_rfl, by kernel_rfl, by kernel_rfl, by kernel_rfl, rfl, by decide, ⟨by kernel_rfl, ?_, ?_⟩, ?_⟩⟩
  · exact no_loops (by kernel_rfl)
  · exact no_cuts (by kernel_rfl)
  · rintro ⟨s0, v1⟩
    kernel_rfl
/- 187 loop.example/g01005/impl.ValidItems$1 -/
def impl_ValidItems_1 (k : Nat) (n0 : List UInt8) (x1 : List (List UInt8)) : Option Bool := (slices_Contains_string k x1 n0).bind fun r_1 => some (!r_1)
def fe_impl_ValidItems_1 (k : Nat) : FE := ⟨(.pr .str (.ptr (.sl 9 .str))), 1, .bool, fun x => impl_ValidItems_1 k x.1 x.2⟩
theorem ok_impl_ValidItems_1 (k : Nat) : FnOK Try.prog 187 (fe_impl_ValidItems_1 k) := by
  refine closed_ok (tab := [(128, fe_slices_Contains_string k)]) (l := []) ti_ok ti_ht mix (List.forall_mem_cons.2 ⟨ok_slices_Contains_string k, (List.forall_mem_nil _)⟩) (List.forall_mem_nil _) ⟨⟨Try.f187, (codeOf Try.f187), [.tmp 3], (LOn Bool), by kernel_rfl, by kernel_rfl, by kernel_rfl, by kernel_rfl, rfl, by decide, ⟨by kernel_rfl, ?_, ?_⟩, ?_⟩⟩
  · exact no_loops (by kernel_rfl)
  · exact no_cuts (by kernel_rfl)
  · rintro ⟨n0, x1⟩
    kernel_rfl
/- 230 slices.IndexFunc[[]string,string] -/
def slices_IndexFunc_string__impl_ValidItems_1_l0 (k : Nat) : Nat → (List (List UInt8)) → (List (List UInt8)) → Int → Int → (Option Int) → Option Int
  | 0, _, _, _, _, _ => none
  | n + 1, s0, f1, x7, x8, e_0 => (if (decide (x8 < x7)) = true then (if 0 ≤ x8 then (s0[x8.toNat]?).bind fun y_1 => (impl_ValidItems_1 k y_1 f1).bind fun r_2 => (if r_2 = true then some x8 else slices_IndexFunc_string__impl_ValidItems_1_l0 k n s0 f1 x7 (w_i64 (x8 + 1)) e_0) else none) else e_0)
def slices_IndexFunc_string__impl_ValidItems_1 (k : Nat) (s0 : List (List UInt8)) (f1 : List (List UInt8)) : Option Int := slices_IndexFunc_string__impl_ValidItems_1_l0 k k s0 f1 (List.length s0 : Int) 0 (some (-1))
def slices_IndexFunc_string__impl_ValidItems_1_l0_h : Head := ⟨[(0, (.val (.sl 9 .str))), (1, (.val (.fn 187 (.ptr (.sl 9 .str))))), (7, (.val (.int .i64))), (8, (.val (.int .i64)))], [], []⟩
def slices_IndexFunc_string__impl_ValidItems_1_l0_x0 : Head := ⟨[], [], []⟩
def slices_IndexFunc_string__impl_ValidItems_1_l0_F (k n : Nat) (x : slices_IndexFunc_string__impl_ValidItems_1_l0_h.T) (kx : Nat → St → Option Int) : Option Int := slices_IndexFunc_string__impl_ValidItems_1_l0 k n x.1.1 x.1.2.1 x.1.2.2.1 x.1.2.2.2.1 (kx 0 (slices_IndexFunc_string__impl_ValidItems_1_l0_x0.fill ((), (), ())))
def slices_IndexFunc_string__impl_ValidItems_1_O (k : Nat) : Oracles Int := ⟨fun n => bif Nat.beq n 2 then some (fun σ kx => slices_IndexFunc_string__impl_ValidItems_1_l0_h.get σ fun x => slices_IndexFunc_string__impl_ValidItems_1_l0_F k k x kx) else none, fun _ => none⟩
def fe_slices_IndexFunc_string__impl_ValidItems_1 (k : Nat) : FE := ⟨(.pr (.sl 9 .str) (.fn 187 (.ptr (.sl 9 .str)))), 1, (.int .i64), fun x => slices_IndexFunc_string__impl_ValidItems_1 k x.1 x.2⟩
theorem slices_IndexFunc_string__impl_ValidItems_1_l0_ok (k : Nat) : LoopOK (mkEnv ti [(187, fe_impl_ValidItems_1 k)] (lk []) pins0 pinB0) (slices_IndexFunc_string__impl_ValidItems_1_O k) (rdC (mkEnv ti [(187, fe_impl_ValidItems_1 k)] (lk []) pins0 pinB0) [.tmp 4] (.int .i64)) ((loopsOf (codeOf Try.f230)).getD 0 .skip) (fun σ kx => slices_IndexFunc_string__impl_ValidItems_1_l0_h.get σ fun x => slices_IndexFunc_string__impl_ValidItems_1_l0_F k k x kx) := by
  refine ⟨slices_IndexFunc_string__impl_ValidItems_1_l0_h, [(0, slices_IndexFunc_string__impl_ValidItems_1_l0_x0)], fun n x kx => slices_IndexFunc_string__impl_ValidItems_1_l0_F k n x kx, k, by kernel_rfl, by kernel_rfl, fun x kx => by kernel_rfl, ?_, fun σ kx => rfl⟩
  rintro n ⟨⟨s0, f1, x7, x8, ⟨⟩⟩, ⟨⟩, ⟨⟩⟩ kx
  kernel_rfl
theorem ok_slices_IndexFunc_string__impl_ValidItems_1 (k : Nat) : FnOK Try.prog 230 (fe_slices_IndexFunc_string__impl_ValidItems_1 k) := by
  refine closed_ok (tab := [(187, fe_impl_ValidItems_1 k)]) (l := []) ti_ok ti_ht mix (List.forall_mem_cons.2 ⟨ok_impl_ValidItems_1 k, (List.forall_mem_nil _)⟩) (List.forall_mem_nil _) ⟨⟨Try.f230, (codeOf Try.f230), [.tmp 4], (slices_IndexFunc_string__impl_ValidItems_1_O k), by kernel_rfl, by kernel_rfl, by kernel_rfl, by kernel_rfl, rfl, by decide, ⟨by kernel_rfl, ?_, ?_⟩, ?_⟩⟩
  · refine loops_of (n := 1) (by kernel_rfl) fun i hi => ?_
    match i, hi with
    | 0, _ => exact loop_of (by kernel_rfl) (slices_IndexFunc_string__impl_ValidItems_1_l0_ok k)
    | n + 1, hi => omega
  · exact no_cuts (by kernel_rfl)
  · rintro ⟨s0, f1⟩
    kernel_rfl
/- 186 slices.ContainsFunc[[]string,string] -/
def slices_ContainsFunc_string__impl_ValidItems_1 (k : Nat) (s0 : List (List UInt8)) (f1 : List (List UInt8)) : Option Bool := (slices_IndexFunc_string__impl_ValidItems_1 k s0 f1).bind fun r_1 => some (decide (0 ≤ r_1))
def fe_slices_ContainsFunc_string__impl_ValidItems_1 (k : Nat) : FE := ⟨(.pr (.sl 9 .str) (.fn 187 (.ptr (.sl 9 .str)))), 1, .bool, fun x => slices_ContainsFunc_string__impl_ValidItems_1 k x.1 x.2⟩
theorem ok_slices_ContainsFunc_string__impl_ValidItems_1 (k : Nat) : FnOK Try.prog 186 (fe_slices_ContainsFunc_string__impl_ValidItems_1 k) := by
  refine closed_ok (tab := [(230, fe_slices_IndexFunc_string__impl_ValidItems_1 k)]) (l := []) ti_ok ti_ht mix (List.forall_mem_cons.2 ⟨ok_slices_IndexFunc_string__impl_ValidItems_1 k, (List.forall_mem_nil _)⟩) (List.forall_mem_nil _) ⟨⟨Try.f186, (codeOf Try.f186), [.tmp 4], (LOn Bool), by kernel_rfl, by kernel_rfl, by kernel_rfl, by kernel_rfl, rfl, by decide, ⟨by kernel_rfl, ?_, ?_⟩, ?_⟩⟩
  · exact no_loops (by kernel_rfl)
  · exact no_cuts (by kernel_rfl)
  · rintro ⟨s0, f1⟩
    kernel_rfl
/- 233 loop.example/g01005/impl.makeOrder$1$1 -/
def impl_makeOrder_1_1 (k : Nat) (n0 : List UInt8) (x1 : List (List UInt8)) : Option Bool := (slices_Contains_string k x1 n0).bind fun r_1 => some (!r_1)
def fe_impl_makeOrder_1_1 (k : Nat) : FE := ⟨(.pr .str (.ptr (.sl 9 .str))), 1, .bool, fun x => impl_makeOrder_1_1 k x.1 x.2⟩
theorem ok_impl_makeOrder_1_1 (k : Nat) : FnOK Try.prog 233 (fe_impl_makeOrder_1_1 k) := by
  refine closed_ok (tab := [(128, fe_slices_Contains_string k)]) (l := []) ti_ok ti_ht mix (List.forall_mem_cons.2 ⟨ok_slices_Contains_string k, (List.forall_mem_nil _)⟩) (List.forall_mem_nil _) ⟨⟨Try.f233, (codeOf Try.f233), [.tmp 3], (LOn Bool), by kernel_rfl, by kernel_rfl, by kernel_rfl, by kernel_rfl, rfl, by decide, ⟨by kernel_rfl, ?_, ?_⟩, ?_⟩⟩
  · exact no_loops (by kernel_rfl)
  · exact no_cuts (by kernel_rfl)
  · rintro ⟨n0, x1⟩
    kernel_rfl
/- 230 slices.IndexFunc[[]string,string] -/
def slices_IndexFunc_string__impl_makeOrder_1_1_l0 (k : Nat) : Nat → (List (List UInt8)) → (List (List UInt8)) → Int → Int → (Option Int) → Option Int
  | 0, _, _, _, _, _ => none
  | n + 1, s0, f1, x7, x8, e_0 => (if (decide (x8 < x7)) = true then (if 0 ≤ x8 then (s0[x8.toNat]?).bind fun y_1 => (impl_makeOrder_1_1 k y_1 f1).bind fun r_2 => (if r_2 = true then some x8 else slices_IndexFunc_string__impl_makeOrder_1_1_l0 k n s0 f1 x7 (w_i64 (x8 + 1)) e_0) else none) else e_0)
def slices_IndexFunc_string__impl_makeOrder_1_1 (k : Nat) (s0 : List (List UInt8)) (f1 : List (List UInt8)) : Option Int := slices_IndexFunc_string__impl_makeOrder_1_1_l0 k k s0 f1 (List.length s0 : Int) 0 (some (-1))
def slices_IndexFunc_string__impl_makeOrder_1_1_l0_h : Head := ⟨[(0, (.val (.sl 9 .str))), (1, (.val (.fn 233 (.ptr (.sl 9 .str))))), (7, (.val (.int .i64))), (8, (.val (.int .i64)))], [], []⟩
def slices_IndexFunc_string__impl_makeOrder_1_1_l0_x0 : Head := ⟨[], [], []⟩
def slices_IndexFunc_string__impl_makeOrder_1_1_l0_F (k n : Nat) (x : slices_IndexFunc_string__impl_makeOrder_1_1_l0_h.T) (kx : Nat → St → Option Int) : Option Int := slices_IndexFunc_string__impl_makeOrder_1_1_l0 k n x.1.1 x.1.2.1 x.1.2.2.1 x.1.2.2.2.1 (kx 0 (slices_IndexFunc_string__impl_makeOrder_1_1_l0_x0.fill ((), (), ())))
def slices_IndexFunc_string__impl_makeOrder_1_1_O (k : Nat) : Oracles Int := ⟨fun n => bif Nat.beq n 2 then some (fun σ kx => slices_IndexFunc_string__impl_makeOrder_1_1_l0_h.get σ fun x => slices_IndexFunc_string__impl_makeOrder_1_1_l0_F k k x kx) else none, fun _ => none⟩
def fe_slices_IndexFunc_string__impl_makeOrder_1_1 (k : Nat) : FE := ⟨(.pr (.sl 9 .str) (.fn 233 (.ptr (.sl 9 .str)))), 1, (.int .i64), fun x => slices_IndexFunc_string__impl_makeOrder_1_1 k x.1 x.2⟩
theorem slices_IndexFunc_string__impl_makeOrder_1_1_l0_ok (k : Nat) : LoopOK (mkEnv ti [(233, fe_impl_makeOrder_1_1 k)] (lk []) pins0 pinB0) (slices_IndexFunc_string__impl_makeOrder_1_1_O k) (rdC (mkEnv ti [(233, fe_impl_makeOrder_1_1 k)] (lk []) pins0 pinB0) [.tmp 4] (.int .i64)) ((loopsOf (codeOf Try.f230)).getD 0 .skip) (fun σ kx => slices_IndexFunc_string__impl_makeOrder_1_1_l0_h.get σ fun x => slices_IndexFunc_string__impl_makeOrder_1_1_l0_F k k x kx) := by
  refine ⟨slices_IndexFunc_string__impl_makeOrder_1_1_l0_h, [(0, slices_IndexFunc_string__impl_makeOrder_1_1_l0_x0)], fun n x kx => slices_IndexFunc_string__impl_makeOrder_1_1_l0_F k n x kx, k, by kernel_rfl, by kernel_rfl, fun x kx => by kernel_rfl, ?_, fun σ kx => rfl⟩
  rintro n ⟨⟨s0, f1, x7, x8, ⟨⟩⟩, ⟨⟩, ⟨⟩⟩ kx
  kernel_rfl
theorem ok_slices_IndexFunc_string__impl_makeOrder_1_1 (k : Nat) : FnOK Try.prog 230 (fe_slices_IndexFunc_string__impl_makeOrder_1_1 k) := by
  refine closed_ok (tab := [(233, fe_impl_makeOrder_1_1 k)]) (l := []) ti_ok ti_ht mix (List.forall_mem_cons.2 ⟨ok_impl_makeOrder_1_1 k, (List.forall_mem_nil _)⟩) (List.forall_mem_nil _) ⟨⟨Try.f230, (codeOf Try.f230), [.tmp 4], (slices_IndexFunc_string__impl_makeOrder_1_1_O k), by kernel_rfl, by kernel_rfl, by kernel_rfl, by kernel_rfl, rfl, by decide, ⟨by kernel_rfl, ?_, ?_⟩, ?_⟩⟩
  · refine loops_of (n := 1) (by kernel_rfl) fun i hi => ?_
    match i, hi with
    | 0, _ => exact loop_of (by kernel_rfl) (slices_IndexFunc_string__impl_makeOrder_1_1_l0_ok k)
    | n + 1, hi => omega
  · exact no_cuts (by kernel_rfl)
  · rintro ⟨s0, f1⟩
    kernel_rfl
/- 186 slices.ContainsFunc[[]string,string] -/
def slices_ContainsFunc_string__impl_makeOrder_1_1 (k : Nat) (s0 : List (List UInt8)) (f1 : List (List UInt8)) : Option Bool := (slices_IndexFunc_string__impl_makeOrder_1_1 k s0 f1).bind fun r_1 => some (decide (0 ≤ r_1))
def fe_slices_ContainsFunc_string__impl_makeOrder_1_1 (k : Nat) : FE := ⟨(.pr (.sl 9 .str) (.fn 233 (.ptr (.sl 9 .str)))), 1, .bool, fun x => slices_ContainsFunc_string__impl_makeOrder_1_1 k x.1 x.2⟩
theorem ok_slices_ContainsFunc_string__impl_makeOrder_1_1 (k : Nat) : FnOK Try.prog 186 (fe_slices_ContainsFunc_string__impl_makeOrder_1_1 k) := by
  refine closed_ok (tab := [(230, fe_slices_IndexFunc_string__impl_makeOrder_1_1 k)]) (l := []) ti_ok ti_ht mix (List.forall_mem_cons.2 ⟨ok_slices_IndexFunc_string__impl_makeOrder_1_1 k, (List.forall_mem_nil _)⟩) (List.forall_mem_nil _) ⟨⟨Try.f186, (codeOf Try.f186), [.tmp 4], (LOn Bool), by kernel_rfl, by kernel_rfl, by kernel_rfl, by kernel_rfl, rfl, by decide, ⟨by kernel_rfl, ?_, ?_⟩, ?_⟩⟩
  · exact no_loops (by kernel_rfl)
  · exact no_cuts (by kernel_rfl)
  · rintro ⟨s0, f1⟩
    kernel_rfl
/- 232 loop.example/g01005/impl.makeOrder$1 -/
def impl_makeOrder_1 (k : Nat) (x0 : List UInt8 × List (List UInt8) × Int × Int) (x1 : List (List UInt8)) : Option Bool := (slices_Contains_string k x1 x0.1).bind fun r_1 => (if (!r_1) = true then (slices_ContainsFunc_string__impl_makeOrder_1_1 k x0.2.1 x1).bind fun r_2 => some (!r_2) else some false)
def fe_impl_makeOrder_1 (k : Nat) : FE := ⟨(.pr (.st (.pr .str (.pr (.sl 9 .str) (.pr (.int .i64) (.int .i64))))) (.ptr (.sl 9 .str))), 1, .bool, fun x => impl_makeOrder_1 k x.1 x.2⟩
theorem ok_impl_makeOrder_1 (k : Nat) : FnOK Try.prog 232 (fe_impl_makeOrder_1 k) := by
  refine closed_ok (tab := [(128, fe_slices_Contains_string k), (186, fe_slices_ContainsFunc_string__impl_makeOrder_1_1 k)]) (l := []) ti_ok ti_ht mix (List.forall_mem_cons.2 ⟨ok_slices_Contains_string k, (List.forall_mem_cons.2 ⟨ok_slices_ContainsFunc_string__impl_makeOrder_1_1 k, (List.forall_mem_nil _)⟩)⟩) (List.forall_mem_nil _) ⟨⟨Try.f232, (codeOf Try.f232), [.tmp 3], (LOn Bool), by kernel_rfl, by kernel_rfl, by kernel_rfl, by kernel_rfl, rfl, by decide, ⟨by kernel_rfl, ?_, ?_⟩, ?_⟩⟩
  · exact no_loops (by kernel_rfl)
  · exact no_cuts (by kernel_rfl)
  · rintro ⟨x0, x1⟩
    kernel_rfl
end
end Go.Proofs.Ytackggcodaolaaa.Ev
