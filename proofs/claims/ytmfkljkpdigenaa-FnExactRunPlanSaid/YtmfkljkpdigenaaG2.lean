/- Functions of the program, as plain ones. No conditions. -/
import Derived.Test.YtmfkljkpdigenaaG1
import Derived.KernelRfl
set_option linter.unusedVariables false
set_option maxRecDepth 100000
namespace Go.Proofs.Ytmfkljkpdigenaa.Ev
open Go.RowKit
noncomputable section
/- 33 loop.example/g01005/spec.l28Reach -/
def spec_l28Reach_l2 (k : Nat) : Nat → (List (List UInt8 × List (List UInt8) × Int × Int)) → Int → Int → Int → Int → (List Bool) → ((List (List UInt8 × List (List UInt8) × Int × Int)) → Int → Int → Int → (List Bool) → Option (List Bool)) → Option (List Bool)
  | 0, _, _, _, _, _, _, _ => none
  | n + 1, list0, at1, turn6, i7, k8, q_3, e_4 => (if 0 ≤ i7 then (list0[i7.toNat]?).bind fun y_4 => (if (decide (k8 < (List.length y_4.2.1 : Int))) = true then (if (decide (i7 = at1)) = true then (if 0 ≤ i7 then (list0[i7.toNat]?).bind fun y_5 => (if 0 ≤ k8 then (y_5.2.1[k8.toNat]?).bind fun y_6 => (spec_l28Find k list0 y_6).bind fun r_7 => (if 0 ≤ r_7 ∧ r_7.toNat < List.length q_3 then (q_3[r_7.toNat]?).bind fun y_8 => (q_3[r_7.toNat]?).bind fun y_9 => spec_l28Reach_l2 k n list0 at1 turn6 i7 (w_i64 (k8 + 1)) (q_3.set r_7.toNat true) e_4 else none) else none) else none) else (if 0 ≤ i7 ∧ i7.toNat < List.length q_3 then (q_3[i7.toNat]?).bind fun y_10 => (if y_10 = true then (if 0 ≤ i7 then (list0[i7.toNat]?).bind fun y_11 => (if 0 ≤ k8 then (y_11.2.1[k8.toNat]?).bind fun y_12 => (spec_l28Find k list0 y_12).bind fun r_13 => (if 0 ≤ r_13 ∧ r_13.toNat < List.length q_3 then (q_3[r_13.toNat]?).bind fun y_14 => (q_3[r_13.toNat]?).bind fun y_15 => spec_l28Reach_l2 k n list0 at1 turn6 i7 (w_i64 (k8 + 1)) (q_3.set r_13.toNat true) e_4 else none) else none) else none) else e_4 list0 at1 turn6 i7 q_3) else none)) else e_4 list0 at1 turn6 i7 q_3) else none)
def spec_l28Reach_l1 (k : Nat) : Nat → (List (List UInt8 × List (List UInt8) × Int × Int)) → Int → Int → Int → (List Bool) → ((List (List UInt8 × List (List UInt8) × Int × Int)) → Int → Int → (List Bool) → Option (List Bool)) → Option (List Bool)
  | 0, _, _, _, _, _, _ => none
  | n + 1, list0, at1, turn6, i7, q_2, e_2 => (if (decide (i7 < (List.length list0 : Int))) = true then spec_l28Reach_l2 k k list0 at1 turn6 i7 0 q_2 (fun list_3 at_4 turn_5 i_6 q_7 => spec_l28Reach_l1 k n list_3 at_4 turn_5 (w_i64 (i_6 + 1)) q_7 e_2) else e_2 list0 at1 turn6 q_2)
def spec_l28Reach_l0 (k : Nat) : Nat → (List (List UInt8 × List (List UInt8) × Int × Int)) → Int → Int → (List Bool) → ((List Bool) → Option (List Bool)) → Option (List Bool)
  | 0, _, _, _, _, _ => none
  | n + 1, list0, at1, turn6, q_1, e_0 => (if (decide (turn6 < (List.length list0 : Int))) = true then spec_l28Reach_l1 k k list0 at1 turn6 0 q_1 (fun list_2 at_3 turn_4 q_5 => spec_l28Reach_l0 k n list_2 at_3 (w_i64 (turn_4 + 1)) q_5 e_0) else e_0 q_1)
def spec_l28Reach (k : Nat) (list0 : List (List UInt8 × List (List UInt8) × Int × Int)) (at1 : Int) : Option (List Bool) := (if 0 ≤ (List.length list0 : Int) ∧ (List.length list0 : Int) ≤ (List.length list0 : Int) ∧ (List.length list0 : Int) * 1 ≤ LIM then spec_l28Reach_l0 k k list0 at1 0 (List.replicate (List.length list0) false) (fun q_6 => some q_6) else none)
def spec_l28Reach_l2_h : Head := ⟨[(0, (.val (.sl 38 (.st (.pr .str (.pr (.sl 9 .str) (.pr (.int .i64) (.int .i64)))))))), (1, (.val (.int .i64))), (5, (.ref 64000000 [])), (6, (.val (.int .i64))), (7, (.val (.int .i64))), (8, (.val (.int .i64)))], [(64000000, 4, .bool, false)], []⟩
def spec_l28Reach_l2_x4 : Head := ⟨[(0, (.val (.sl 38 (.st (.pr .str (.pr (.sl 9 .str) (.pr (.int .i64) (.int .i64)))))))), (1, (.val (.int .i64))), (5, (.ref 64000000 [])), (6, (.val (.int .i64))), (7, (.val (.int .i64)))], [(64000000, 4, .bool, false)], []⟩
def spec_l28Reach_l2_F (k n : Nat) (x : spec_l28Reach_l2_h.T) (kx : Nat → St → Option (List Bool)) : Option (List Bool) := spec_l28Reach_l2 k n x.1.1 x.1.2.1 x.1.2.2.2.1 x.1.2.2.2.2.1 x.1.2.2.2.2.2.1 x.2.1.1 (fun (list0 : List (List UInt8 × List (List UInt8) × Int × Int)) (at1 : Int) (turn6 : Int) (i7 : Int) (q_16 : List Bool) => kx 4 (spec_l28Reach_l2_x4.fill ((list0, at1, (), turn6, i7, ()), (q_16, ()), ())))
def spec_l28Reach_l1_h : Head := ⟨[(0, (.val (.sl 38 (.st (.pr .str (.pr (.sl 9 .str) (.pr (.int .i64) (.int .i64)))))))), (1, (.val (.int .i64))), (5, (.ref 64000000 [])), (6, (.val (.int .i64))), (7, (.val (.int .i64)))], [(64000000, 4, .bool, false)], []⟩
def spec_l28Reach_l1_x2 : Head := ⟨[(0, (.val (.sl 38 (.st (.pr .str (.pr (.sl 9 .str) (.pr (.int .i64) (.int .i64)))))))), (1, (.val (.int .i64))), (5, (.ref 64000000 [])), (6, (.val (.int .i64)))], [(64000000, 4, .bool, false)], []⟩
def spec_l28Reach_l1_F (k n : Nat) (x : spec_l28Reach_l1_h.T) (kx : Nat → St → Option (List Bool)) : Option (List Bool) := spec_l28Reach_l1 k n x.1.1 x.1.2.1 x.1.2.2.2.1 x.1.2.2.2.2.1 x.2.1.1 (fun (list0 : List (List UInt8 × List (List UInt8) × Int × Int)) (at1 : Int) (turn6 : Int) (q_21 : List Bool) => kx 2 (spec_l28Reach_l1_x2.fill ((list0, at1, (), turn6, ()), (q_21, ()), ())))
def spec_l28Reach_l0_h : Head := ⟨[(0, (.val (.sl 38 (.st (.pr .str (.pr (.sl 9 .str) (.pr (.int .i64) (.int .i64)))))))), (1, (.val (.int .i64))), (5, (.ref 64000000 [])), (6, (.val (.int .i64)))], [(64000000, 4, .bool, false)], []⟩
def spec_l28Reach_l0_x0 : Head := ⟨[(5, (.ref 64000000 []))], [(64000000, 4, .bool, false)], []⟩
def spec_l28Reach_l0_F (k n : Nat) (x : spec_l28Reach_l0_h.T) (kx : Nat → St → Option (List Bool)) : Option (List Bool) := spec_l28Reach_l0 k n x.1.1 x.1.2.1 x.1.2.2.2.1 x.2.1.1 (fun (q_12 : List Bool) => kx 0 (spec_l28Reach_l0_x0.fill (((), ()), (q_12, ()), ())))
def spec_l28Reach_O (k : Nat) : Oracles (List Bool) := ⟨fun n => bif Nat.beq n 9 then some (fun σ kx => spec_l28Reach_l2_h.get σ fun x => spec_l28Reach_l2_F k k x kx) else bif Nat.beq n 6 then some (fun σ kx => spec_l28Reach_l1_h.get σ fun x => spec_l28Reach_l1_F k k x kx) else bif Nat.beq n 3 then some (fun σ kx => spec_l28Reach_l0_h.get σ fun x => spec_l28Reach_l0_F k k x kx) else none, fun _ => none⟩
def fe_spec_l28Reach (k : Nat) : FE := ⟨(.pr (.sl 38 (.st (.pr .str (.pr (.sl 9 .str) (.pr (.int .i64) (.int .i64)))))) (.int .i64)), 1, (.sl 4 .bool), fun x => spec_l28Reach k x.1 x.2⟩
theorem spec_l28Reach_l2_ok (k : Nat) : LoopOK (mkEnv ti [(14, fe_spec_l28Find k)] (lk []) pins0 pinB0) (spec_l28Reach_O k) (rdC (mkEnv ti [(14, fe_spec_l28Find k)] (lk []) pins0 pinB0) [.tmp 4] (.sl 4 .bool)) ((loopsOf (codeOf Try.f33)).getD 2 .skip) (fun σ kx => spec_l28Reach_l2_h.get σ fun x => spec_l28Reach_l2_F k k x kx) := by
  refine ⟨spec_l28Reach_l2_h, [(4, spec_l28Reach_l2_x4)], fun n x kx => spec_l28Reach_l2_F k n x kx, k, by kernel_rfl, by kernel_rfl, fun x kx => by kernel_rfl, ?_, fun σ kx => rfl⟩
  rintro n ⟨⟨list0, at1, ⟨⟩, turn6, i7, k8, ⟨⟩⟩, ⟨q_3, ⟨⟩⟩, ⟨⟩⟩ kx
  kernel_rfl
theorem spec_l28Reach_l1_ok (k : Nat) : LoopOK (mkEnv ti [(14, fe_spec_l28Find k)] (lk []) pins0 pinB0) (spec_l28Reach_O k) (rdC (mkEnv ti [(14, fe_spec_l28Find k)] (lk []) pins0 pinB0) [.tmp 4] (.sl 4 .bool)) ((loopsOf (codeOf Try.f33)).getD 1 .skip) (fun σ kx => spec_l28Reach_l1_h.get σ fun x => spec_l28Reach_l1_F k k x kx) := by
  refine ⟨spec_l28Reach_l1_h, [(2, spec_l28Reach_l1_x2)], fun n x kx => spec_l28Reach_l1_F k n x kx, k, by kernel_rfl, by kernel_rfl, fun x kx => by kernel_rfl, ?_, fun σ kx => rfl⟩
  rintro n ⟨⟨list0, at1, ⟨⟩, turn6, i7, ⟨⟩⟩, ⟨q_2, ⟨⟩⟩, ⟨⟩⟩ kx
  kernel_rfl
theorem spec_l28Reach_l0_ok (k : Nat) : LoopOK (mkEnv ti [(14, fe_spec_l28Find k)] (lk []) pins0 pinB0) (spec_l28Reach_O k) (rdC (mkEnv ti [(14, fe_spec_l28Find k)] (lk []) pins0 pinB0) [.tmp 4] (.sl 4 .bool)) ((loopsOf (codeOf Try.f33)).getD 0 .skip) (fun σ kx => spec_l28Reach_l0_h.get σ fun x => spec_l28Reach_l0_F k k x kx) := by
  refine ⟨spec_l28Reach_l0_h, [(0, spec_l28Reach_l0_x0)], fun n x kx => spec_l28Reach_l0_F k n x kx, k, by kernel_rfl, by kernel_rfl, fun x kx => by kernel_rfl, ?_, fun σ kx => rfl⟩
  rintro n ⟨⟨list0, at1, ⟨⟩, turn6, ⟨⟩⟩, ⟨q_1, ⟨⟩⟩, ⟨⟩⟩ kx
  kernel_rfl
theorem ok_spec_l28Reach (k : Nat) : FnOK Try.prog 33 (fe_spec_l28Reach k) := by
  refine closed_ok (tab := [(14, fe_spec_l28Find k)]) (l := []) ti_ok ti_ht mix (List.forall_mem_cons.2 ⟨ok_spec_l28Find k, (List.forall_mem_nil _)⟩) (List.forall_mem_nil _) ⟨⟨Try.f33, (codeOf Try.f33), [.tmp 4], (spec_l28Reach_O k), by kernel_rfl, by kernel_rfl, by kernel_rfl, by kernel_rfl, rfl, by decide, ⟨by kernel_rfl, ?_, ?_⟩, ?_⟩⟩
  · refine loops_of (n := 3) (by kernel_rfl) fun i hi => ?_
    match i, hi with
    | 0, _ => exact loop_of (by kernel_rfl) (spec_l28Reach_l0_ok k)
    | 1, _ => exact loop_of (by kernel_rfl) (spec_l28Reach_l1_ok k)
    | 2, _ => exact loop_of (by kernel_rfl) (spec_l28Reach_l2_ok k)
    | n + 3, hi => omega
  · exact no_cuts (by kernel_rfl)
  · rintro ⟨list0, at1⟩
    kernel_rfl
/- 34 loop.example/g01005/spec.l28Stale -/
def spec_l28Stale_l1 (k : Nat) : Nat → (List (List UInt8 × List (List UInt8) × Int × Int)) → Int → Int → Int → (List Int) → (List Bool) → ((List (List UInt8 × List (List UInt8) × Int × Int)) → Int → (List Int) → (List Bool) → Option (List Bool)) → Option (List Bool)
  | 0, _, _, _, _, _, _, _ => none
  | n + 1, list0, i5, at6, k7, q_8, q_9, e_2 => (if 0 ≤ at6 then (list0[at6.toNat]?).bind fun y_10 => (if (decide (k7 < (List.length y_10.2.1 : Int))) = true then (if 0 ≤ at6 then (list0[at6.toNat]?).bind fun y_11 => (if 0 ≤ k7 then (y_11.2.1[k7.toNat]?).bind fun y_12 => (spec_l28Find k list0 y_12).bind fun r_13 => (if 0 ≤ at6 ∧ at6.toNat < List.length q_9 then (q_9[at6.toNat]?).bind fun y_14 => (if y_14 = true then (if 0 ≤ at6 ∧ at6.toNat < List.length q_9 then (q_9[at6.toNat]?).bind fun y_15 => (q_9[at6.toNat]?).bind fun y_16 => spec_l28Stale_l1 k n list0 i5 at6 (w_i64 (k7 + 1)) q_8 (q_9.set at6.toNat true) e_2 else none) else (if 0 ≤ r_13 ∧ r_13.toNat < List.length q_9 then (q_9[r_13.toNat]?).bind fun y_17 => (if y_17 = true then (if 0 ≤ at6 ∧ at6.toNat < List.length q_9 then (q_9[at6.toNat]?).bind fun y_18 => (q_9[at6.toNat]?).bind fun y_19 => spec_l28Stale_l1 k n list0 i5 at6 (w_i64 (k7 + 1)) q_8 (q_9.set at6.toNat true) e_2 else none) else (if 0 ≤ r_13 then (list0[r_13.toNat]?).bind fun y_20 => (if 0 ≤ at6 then (list0[at6.toNat]?).bind fun y_21 => (if 0 ≤ at6 ∧ at6.toNat < List.length q_9 then (q_9[at6.toNat]?).bind fun y_22 => (q_9[at6.toNat]?).bind fun y_23 => spec_l28Stale_l1 k n list0 i5 at6 (w_i64 (k7 + 1)) q_8 (q_9.set at6.toNat (decide (y_21.2.2.1 < y_20.2.2.1))) e_2 else none) else none) else none)) else none)) else none) else none) else none) else e_2 list0 i5 q_8 q_9) else none)
def spec_l28Stale_l0 (k : Nat) : Nat → (List (List UInt8 × List (List UInt8) × Int × Int)) → Int → (List Int) → (List Bool) → ((List Bool) → Option (List Bool)) → Option (List Bool)
  | 0, _, _, _, _, _ => none
  | n + 1, list0, i5, q_2, q_3, e_0 => (if (decide (i5 < (List.length q_2 : Int))) = true then (if 0 ≤ i5 ∧ i5.toNat < List.length q_2 then (q_2[i5.toNat]?).bind fun y_4 => (if 0 ≤ y_4 then (list0[y_4.toNat]?).bind fun y_5 => (if 0 ≤ y_4 ∧ y_4.toNat < List.length q_3 then (q_3[y_4.toNat]?).bind fun y_6 => (q_3[y_4.toNat]?).bind fun y_7 => spec_l28Stale_l1 k k list0 i5 y_4 0 q_2 (q_3.set y_4.toNat (decide (y_5.2.2.1 = 0))) (fun list_8 i_9 q_10 q_11 => spec_l28Stale_l0 k n list_8 (w_i64 (i_9 + 1)) q_10 q_11 e_0) else none) else none) else none) else e_0 q_3)
def spec_l28Stale (k : Nat) (list0 : List (List UInt8 × List (List UInt8) × Int × Int)) : Option (List Bool) := (spec_l28Order k list0).bind fun r_1 => (if 0 ≤ (List.length list0 : Int) ∧ (List.length list0 : Int) ≤ (List.length list0 : Int) ∧ (List.length list0 : Int) * 1 ≤ LIM then spec_l28Stale_l0 k k list0 0 r_1 (List.replicate (List.length list0) false) (fun q_12 => some q_12) else none)
def spec_l28Stale_l1_h : Head := ⟨[(0, (.val (.sl 38 (.st (.pr .str (.pr (.sl 9 .str) (.pr (.int .i64) (.int .i64)))))))), (3, (.ref 64000000 [])), (4, (.ref 64000001 [])), (5, (.val (.int .i64))), (6, (.val (.int .i64))), (7, (.val (.int .i64)))], [(64000000, 3, (.int .i64), false), (64000001, 4, .bool, false)], []⟩
def spec_l28Stale_l1_x2 : Head := ⟨[(0, (.val (.sl 38 (.st (.pr .str (.pr (.sl 9 .str) (.pr (.int .i64) (.int .i64)))))))), (3, (.ref 64000000 [])), (4, (.ref 64000001 [])), (5, (.val (.int .i64)))], [(64000000, 3, (.int .i64), false), (64000001, 4, .bool, false)], []⟩
def spec_l28Stale_l1_F (k n : Nat) (x : spec_l28Stale_l1_h.T) (kx : Nat → St → Option (List Bool)) : Option (List Bool) := spec_l28Stale_l1 k n x.1.1 x.1.2.2.2.1 x.1.2.2.2.2.1 x.1.2.2.2.2.2.1 x.2.1.1 x.2.1.2.1 (fun (list0 : List (List UInt8 × List (List UInt8) × Int × Int)) (i5 : Int) (q_24 : List Int) (q_25 : List Bool) => kx 2 (spec_l28Stale_l1_x2.fill ((list0, (), (), i5, ()), (q_24, q_25, ()), ())))
def spec_l28Stale_l0_h : Head := ⟨[(0, (.val (.sl 38 (.st (.pr .str (.pr (.sl 9 .str) (.pr (.int .i64) (.int .i64)))))))), (3, (.ref 64000000 [])), (4, (.ref 64000001 [])), (5, (.val (.int .i64)))], [(64000000, 3, (.int .i64), false), (64000001, 4, .bool, false)], []⟩
def spec_l28Stale_l0_x0 : Head := ⟨[(4, (.ref 64000000 []))], [(64000000, 4, .bool, false)], []⟩
def spec_l28Stale_l0_F (k n : Nat) (x : spec_l28Stale_l0_h.T) (kx : Nat → St → Option (List Bool)) : Option (List Bool) := spec_l28Stale_l0 k n x.1.1 x.1.2.2.2.1 x.2.1.1 x.2.1.2.1 (fun (q_28 : List Bool) => kx 0 (spec_l28Stale_l0_x0.fill (((), ()), (q_28, ()), ())))
def spec_l28Stale_O (k : Nat) : Oracles (List Bool) := ⟨fun n => bif Nat.beq n 9 then some (fun σ kx => spec_l28Stale_l1_h.get σ fun x => spec_l28Stale_l1_F k k x kx) else bif Nat.beq n 4 then some (fun σ kx => spec_l28Stale_l0_h.get σ fun x => spec_l28Stale_l0_F k k x kx) else none, fun _ => none⟩
def fe_spec_l28Stale (k : Nat) : FE := ⟨(.sl 38 (.st (.pr .str (.pr (.sl 9 .str) (.pr (.int .i64) (.int .i64)))))), 1, (.sl 4 .bool), fun x => spec_l28Stale k x⟩
theorem spec_l28Stale_l1_ok (k : Nat) : LoopOK (mkEnv ti [(32, fe_spec_l28Order k), (14, fe_spec_l28Find k)] (lk []) pins0 pinB0) (spec_l28Stale_O k) (rdC (mkEnv ti [(32, fe_spec_l28Order k), (14, fe_spec_l28Find k)] (lk []) pins0 pinB0) [.tmp 2] (.sl 4 .bool)) ((loopsOf (codeOf Try.f34)).getD 1 .skip) (fun σ kx => spec_l28Stale_l1_h.get σ fun x => spec_l28Stale_l1_F k k x kx) := by
  refine ⟨spec_l28Stale_l1_h, [(2, spec_l28Stale_l1_x2)], fun n x kx => spec_l28Stale_l1_F k n x kx, k, by kernel_rfl, by kernel_rfl, fun x kx => by kernel_rfl, ?_, fun σ kx => rfl⟩
  rintro n ⟨⟨list0, ⟨⟩, ⟨⟩, i5, at6, k7, ⟨⟩⟩, ⟨q_8, q_9, ⟨⟩⟩, ⟨⟩⟩ kx
  kernel_rfl
theorem spec_l28Stale_l0_ok (k : Nat) : LoopOK (mkEnv ti [(32, fe_spec_l28Order k), (14, fe_spec_l28Find k)] (lk []) pins0 pinB0) (spec_l28Stale_O k) (rdC (mkEnv ti [(32, fe_spec_l28Order k), (14, fe_spec_l28Find k)] (lk []) pins0 pinB0) [.tmp 2] (.sl 4 .bool)) ((loopsOf (codeOf Try.f34)).getD 0 .skip) (fun σ kx => spec_l28Stale_l0_h.get σ fun x => spec_l28Stale_l0_F k k x kx) := by
  refine ⟨spec_l28Stale_l0_h, [(0, spec_l28Stale_l0_x0)], fun n x kx => spec_l28Stale_l0_F k n x kx, k, by kernel_rfl, by kernel_rfl, fun x kx => by kernel_rfl, ?_, fun σ kx => rfl⟩
  rintro n ⟨⟨list0, ⟨⟩, ⟨⟩, i5, ⟨⟩⟩, ⟨q_2, q_3, ⟨⟩⟩, ⟨⟩⟩ kx
  kernel_rfl
theorem ok_spec_l28Stale (k : Nat) : FnOK Try.prog 34 (fe_spec_l28Stale k) := by
  refine closed_ok (tab := [(32, fe_spec_l28Order k), (14, fe_spec_l28Find k)]) (l := []) ti_ok ti_ht mix (List.forall_mem_cons.2 ⟨ok_spec_l28Order k, (List.forall_mem_cons.2 ⟨ok_spec_l28Find k, (List.forall_mem_nil _)⟩)⟩) (List.forall_mem_nil _) ⟨⟨Try.f34, (codeOf Try.f34), [.tmp 2], (spec_l28Stale_O k), by kernel_rfl, by kernel_rfl, by kernel_rfl, by kernel_rfl, rfl, by decide, ⟨by kernel_rfl, ?_, ?_⟩, ?_⟩⟩
  · refine loops_of (n := 2) (by kernel_rfl) fun i hi => ?_
    match i, hi with
    | 0, _ => exact loop_of (by kernel_rfl) (spec_l28Stale_l0_ok k)
    | 1, _ => exact loop_of (by kernel_rfl) (spec_l28Stale_l1_ok k)
    | n + 2, hi => omega
  · exact no_cuts (by kernel_rfl)
  · rintro list0
    kernel_rfl
/- 15 loop.example/g01005/spec.l28Plan -/
def spec_l28Plan_l0 (k : Nat) : Nat → Int → (List Bool) → (List Bool) → (List Int) → (List Int) → ((List Int) → Option (List Int)) → Option (List Int)
  | 0, _, _, _, _, _, _ => none
  | n + 1, i9, q_6, q_7, q_8, q_9, e_0 => (if (decide (i9 < (List.length q_8 : Int))) = true then (if 0 ≤ i9 ∧ i9.toNat < List.length q_8 then (q_8[i9.toNat]?).bind fun y_10 => (if 0 ≤ y_10 ∧ y_10.toNat < List.length q_6 then (q_6[y_10.toNat]?).bind fun y_11 => (if y_11 = true then (if 0 ≤ i9 ∧ i9.toNat < List.length q_8 then (q_8[i9.toNat]?).bind fun y_12 => (if 0 ≤ y_12 ∧ y_12.toNat < List.length q_7 then (q_7[y_12.toNat]?).bind fun y_13 => (if y_13 = true then (if 0 ≤ i9 ∧ i9.toNat < List.length q_8 then (q_8[i9.toNat]?).bind fun y_14 => (if (q_9.length + [y_14].length) * 8 ≤ LIM then spec_l28Plan_l0 k n (w_i64 (i9 + 1)) q_6 q_7 q_8 (q_9 ++ [y_14]) e_0 else none) else none) else spec_l28Plan_l0 k n (w_i64 (i9 + 1)) q_6 q_7 q_8 q_9 e_0) else none) else none) else spec_l28Plan_l0 k n (w_i64 (i9 + 1)) q_6 q_7 q_8 q_9 e_0) else none) else none) else e_0 q_9)
def spec_l28Plan (k : Nat) (list0 : List (List UInt8 × List (List UInt8) × Int × Int)) (at1 : Int) : Option (List Int) := (spec_l28Reach k list0 at1).bind fun r_1 => (if 0 ≤ at1 ∧ at1.toNat < List.length r_1 then (r_1[at1.toNat]?).bind fun y_2 => (r_1[at1.toNat]?).bind fun y_3 => (spec_l28Stale k list0).bind fun r_4 => (spec_l28Order k list0).bind fun r_5 => spec_l28Plan_l0 k k 0 (r_1.set at1.toNat true) r_4 r_5 [] (fun q_15 => some q_15) else none)
def spec_l28Plan_l0_h : Head := ⟨[(5, (.ref 64000000 [])), (6, (.ref 64000001 [])), (7, (.ref 64000002 [])), (8, (.ref 64000003 [])), (9, (.val (.int .i64)))], [(64000000, 4, .bool, false), (64000001, 4, .bool, false), (64000002, 3, (.int .i64), false), (64000003, 3, (.int .i64), false)], []⟩
def spec_l28Plan_l0_x0 : Head := ⟨[(8, (.ref 64000000 []))], [(64000000, 3, (.int .i64), false)], []⟩
def spec_l28Plan_l0_F (k n : Nat) (x : spec_l28Plan_l0_h.T) (kx : Nat → St → Option (List Int)) : Option (List Int) := spec_l28Plan_l0 k n x.1.2.2.2.2.1 x.2.1.1 x.2.1.2.1 x.2.1.2.2.1 x.2.1.2.2.2.1 (fun (q_15 : List Int) => kx 0 (spec_l28Plan_l0_x0.fill (((), ()), (q_15, ()), ())))
def spec_l28Plan_O (k : Nat) : Oracles (List Int) := ⟨fun n => bif Nat.beq n 7 then some (fun σ kx => spec_l28Plan_l0_h.get σ fun x => spec_l28Plan_l0_F k k x kx) else none, fun _ => none⟩
def fe_spec_l28Plan (k : Nat) : FE := ⟨(.pr (.sl 38 (.st (.pr .str (.pr (.sl 9 .str) (.pr (.int .i64) (.int .i64)))))) (.int .i64)), 1, (.sl 3 (.int .i64)), fun x => spec_l28Plan k x.1 x.2⟩
theorem spec_l28Plan_l0_ok (k : Nat) : LoopOK (mkEnv ti [(33, fe_spec_l28Reach k), (34, fe_spec_l28Stale k), (32, fe_spec_l28Order k)] (lk []) pins0 pinB0) (spec_l28Plan_O k) (rdC (mkEnv ti [(33, fe_spec_l28Reach k), (34, fe_spec_l28Stale k), (32, fe_spec_l28Order k)] (lk []) pins0 pinB0) [.tmp 4] (.sl 3 (.int .i64))) ((loopsOf (codeOf Try.f15)).getD 0 .skip) (fun σ kx => spec_l28Plan_l0_h.get σ fun x => spec_l28Plan_l0_F k k x kx) := by
  refine ⟨spec_l28Plan_l0_h, [(0, spec_l28Plan_l0_x0)], fun n x kx => spec_l28Plan_l0_F k n x kx, k, by kernel_rfl, by kernel_rfl, fun x kx => by kernel_rfl, ?_, fun σ kx => rfl⟩
  rintro n ⟨⟨⟨⟩, ⟨⟩, ⟨⟩, ⟨⟩, i9, ⟨⟩⟩, ⟨q_6, q_7, q_8, q_9, ⟨⟩⟩, ⟨⟩⟩ kx
  kernel_rfl
theorem ok_spec_l28Plan (k : Nat) : FnOK Try.prog 15 (fe_spec_l28Plan k) := by
  refine closed_ok (tab := [(33, fe_spec_l28Reach k), (34, fe_spec_l28Stale k), (32, fe_spec_l28Order k)]) (l := []) ti_ok ti_ht mix (List.forall_mem_cons.2 ⟨ok_spec_l28Reach k, (List.forall_mem_cons.2 ⟨ok_spec_l28Stale k, (List.forall_mem_cons.2 ⟨ok_spec_l28Order k, (List.forall_mem_nil _)⟩)⟩)⟩) (List.forall_mem_nil _) ⟨⟨Try.f15, (codeOf Try.f15), [.tmp 4], (spec_l28Plan_O k), by kernel_rfl, by kernel_rfl, by kernel_rfl, by kernel_rfl, rfl, by decide, ⟨by kernel_rfl, ?_, ?_⟩, ?_⟩⟩
  · refine loops_of (n := 1) (by kernel_rfl) fun i hi => ?_
    match i, hi with
    | 0, _ => exact loop_of (by kernel_rfl) (spec_l28Plan_l0_ok k)
    | n + 1, hi => omega
  · exact no_cuts (by kernel_rfl)
  · rintro ⟨list0, at1⟩
    kernel_rfl
/- 16 loop.example/g01005/spec.l28Own -/
def spec_l28Own_l0 (k : Nat) : Nat → (List (List UInt8 × List (List UInt8) × Int × Int)) → Int → (List (List UInt8 × List (List UInt8) × Int × Int)) → ((List (List UInt8 × List (List UInt8) × Int × Int)) → Option (List (List UInt8 × List (List UInt8) × Int × Int))) → Option (List (List UInt8 × List (List UInt8) × Int × Int))
  | 0, _, _, _, _ => none
  | n + 1, list0, i4, q_1, e_0 => (if (decide (i4 < (List.length list0 : Int))) = true then (if 0 ≤ i4 then (list0[i4.toNat]?).bind fun y_2 => (if (([] : List Unit).length + y_2.2.1.length) * 16 ≤ LIM then (if (q_1.length + [(y_2.1, (y_2.2.1, y_2.2.2))].length) * 56 ≤ LIM then spec_l28Own_l0 k n list0 (w_i64 (i4 + 1)) (q_1 ++ [(y_2.1, (y_2.2.1, y_2.2.2))]) e_0 else none) else none) else none) else e_0 q_1)
def spec_l28Own (k : Nat) (list0 : List (List UInt8 × List (List UInt8) × Int × Int)) : Option (List (List UInt8 × List (List UInt8) × Int × Int)) := spec_l28Own_l0 k k list0 0 [] (fun q_3 => some q_3)
def spec_l28Own_l0_h : Head := ⟨[(0, (.val (.sl 38 (.st (.pr .str (.pr (.sl 9 .str) (.pr (.int .i64) (.int .i64)))))))), (3, (.ref 64000000 [])), (4, (.val (.int .i64)))], [(64000000, 38, (.st (.pr .str (.pr (.sl 9 .str) (.pr (.int .i64) (.int .i64))))), false)], []⟩
def spec_l28Own_l0_x0 : Head := ⟨[(3, (.ref 64000000 []))], [(64000000, 38, (.st (.pr .str (.pr (.sl 9 .str) (.pr (.int .i64) (.int .i64))))), false)], []⟩
def spec_l28Own_l0_F (k n : Nat) (x : spec_l28Own_l0_h.T) (kx : Nat → St → Option (List (List UInt8 × List (List UInt8) × Int × Int))) : Option (List (List UInt8 × List (List UInt8) × Int × Int)) := spec_l28Own_l0 k n x.1.1 x.1.2.2.1 x.2.1.1 (fun (q_3 : List (List UInt8 × List (List UInt8) × Int × Int)) => kx 0 (spec_l28Own_l0_x0.fill (((), ()), (q_3, ()), ())))
def spec_l28Own_O (k : Nat) : Oracles (List (List UInt8 × List (List UInt8) × Int × Int)) := ⟨fun n => bif Nat.beq n 3 then some (fun σ kx => spec_l28Own_l0_h.get σ fun x => spec_l28Own_l0_F k k x kx) else none, fun _ => none⟩
def fe_spec_l28Own (k : Nat) : FE := ⟨(.sl 38 (.st (.pr .str (.pr (.sl 9 .str) (.pr (.int .i64) (.int .i64)))))), 1, (.sl 38 (.st (.pr .str (.pr (.sl 9 .str) (.pr (.int .i64) (.int .i64)))))), fun x => spec_l28Own k x⟩
theorem spec_l28Own_l0_ok (k : Nat) : LoopOK (mkEnv ti [] (lk []) pins0 pinB0) (spec_l28Own_O k) (rdC (mkEnv ti [] (lk []) pins0 pinB0) [.tmp 2] (.sl 38 (.st (.pr .str (.pr (.sl 9 .str) (.pr (.int .i64) (.int .i64))))))) ((loopsOf (codeOf Try.f16)).getD 0 .skip) (fun σ kx => spec_l28Own_l0_h.get σ fun x => spec_l28Own_l0_F k k x kx) := by
  refine ⟨spec_l28Own_l0_h, [(0, spec_l28Own_l0_x0)], fun n x kx => spec_l28Own_l0_F k n x kx, k, by kernel_rfl, by kernel_rfl, fun x kx => by kernel_rfl, ?_, fun σ kx => rfl⟩
  rintro n ⟨⟨list0, ⟨⟩, i4, ⟨⟩⟩, ⟨q_1, ⟨⟩⟩, ⟨⟩⟩ kx
  kernel_rfl
theorem ok_spec_l28Own (k : Nat) : FnOK Try.prog 16 (fe_spec_l28Own k) := by
  refine closed_ok (tab := []) (l := []) ti_ok ti_ht mix (List.forall_mem_nil _) (List.forall_mem_nil _) ⟨⟨Try.f16, (codeOf Try.f16), [.tmp 2], (spec_l28Own_O k), by kernel_rfl, by kernel_rfl, by kernel_rfl, by kernel_rfl, rfl, by decide, ⟨by kernel_rfl, ?_, ?_⟩, ?_⟩⟩
  · refine loops_of (n := 1) (by kernel_rfl) fun i hi => ?_
    match i, hi with
    | 0, _ => exact loop_of (by kernel_rfl) (spec_l28Own_l0_ok k)
    | n + 1, hi => omega
  · exact no_cuts (by kernel_rfl)
  · rintro list0
    kernel_rfl
/- 5 loop.example/g01005/spec.RunPlan -/
def spec_RunPlan_l0 (k : Nat) : Nat → (List (List UInt8 × List (List UInt8) × Int × Int)) → Int → Int → Int → ((List (List UInt8 × List (List UInt8) × Int × Int)) → Int → Int → Option ((List (List UInt8 × List (List UInt8) × Int × Int)) × Int)) → Option ((List (List UInt8 × List (List UInt8) × Int × Int)) × Int)
  | 0, _, _, _, _, _ => none
  | n + 1, list0, stamp2, at8, i9, e_0 => (if (decide (i9 < (List.length list0 : Int))) = true then (if 0 ≤ i9 then (list0[i9.toNat]?).bind fun y_4 => (if (decide (stamp2 ≤ y_4.2.2.1)) = true then some ([], 6) else spec_RunPlan_l0 k n list0 stamp2 at8 (w_i64 (i9 + 1)) e_0) else none) else e_0 list0 stamp2 at8)
def spec_RunPlan_l1 (k : Nat) : Nat → Int → Int → (List Int) → (List (List UInt8 × List (List UInt8) × Int × Int)) → ((List (List UInt8 × List (List UInt8) × Int × Int)) → Option ((List (List UInt8 × List (List UInt8) × Int × Int)) × Int)) → Option ((List (List UInt8 × List (List UInt8) × Int × Int)) × Int)
  | 0, _, _, _, _, _ => none
  | n + 1, stamp2, i12, q_10, q_11, e_2 => (if (decide (i12 < (List.length q_10 : Int))) = true then (if 0 ≤ i12 ∧ i12.toNat < List.length q_10 then (q_10[i12.toNat]?).bind fun y_12 => (if 0 ≤ y_12 ∧ y_12.toNat < List.length q_11 then (q_11[y_12.toNat]?).bind fun y_13 => (q_11[y_12.toNat]?).bind fun y_14 => spec_RunPlan_l1 k n stamp2 (w_i64 (i12 + 1)) q_10 (q_11.set y_12.toNat (y_13.1, (y_13.2.1, ((w_i64 (stamp2 + i12)), y_13.2.2.2)))) e_2 else none) else none) else e_2 q_11)
def spec_RunPlan (k : Nat) (list0 : List (List UInt8 × List (List UInt8) × Int × Int)) (name1 : List UInt8) (stamp2 : Int) : Option ((List (List UInt8 × List (List UInt8) × Int × Int)) × Int) := (spec_l28Ok k list0).bind fun r_1 => (if (!r_1) = true then some ([], 1) else (spec_l00In stamp2 1 999984).bind fun r_2 => (if (!r_2) = true then some ([], 2) else (spec_l28Find k list0 name1).bind fun r_3 => (if (decide (r_3 < 0)) = true then some ([], 3) else spec_RunPlan_l0 k k list0 stamp2 r_3 0 (fun list_5 stamp_6 at_7 => (spec_l28Plan k list_5 at_7).bind fun r_8 => (spec_l28Own k list_5).bind fun r_9 => spec_RunPlan_l1 k k stamp_6 0 r_8 r_9 (fun q_15 => some (q_15, 0))))))
def spec_RunPlan_l0_h : Head := ⟨[(0, (.val (.sl 38 (.st (.pr .str (.pr (.sl 9 .str) (.pr (.int .i64) (.int .i64)))))))), (2, (.val (.int .i64))), (8, (.val (.int .i64))), (9, (.val (.int .i64)))], [], []⟩
def spec_RunPlan_l0_x0 : Head := ⟨[(0, (.val (.sl 38 (.st (.pr .str (.pr (.sl 9 .str) (.pr (.int .i64) (.int .i64)))))))), (2, (.val (.int .i64))), (8, (.val (.int .i64)))], [], []⟩
def spec_RunPlan_l0_F (k n : Nat) (x : spec_RunPlan_l0_h.T) (kx : Nat → St → Option ((List (List UInt8 × List (List UInt8) × Int × Int)) × Int)) : Option ((List (List UInt8 × List (List UInt8) × Int × Int)) × Int) := spec_RunPlan_l0 k n x.1.1 x.1.2.1 x.1.2.2.1 x.1.2.2.2.1 (fun (list0 : List (List UInt8 × List (List UInt8) × Int × Int)) (stamp2 : Int) (at8 : Int) => kx 0 (spec_RunPlan_l0_x0.fill ((list0, stamp2, at8, ()), (), ())))
def spec_RunPlan_l1_h : Head := ⟨[(2, (.val (.int .i64))), (10, (.ref 64000000 [])), (11, (.ref 64000001 [])), (12, (.val (.int .i64)))], [(64000000, 3, (.int .i64), false), (64000001, 38, (.st (.pr .str (.pr (.sl 9 .str) (.pr (.int .i64) (.int .i64))))), false)], []⟩
def spec_RunPlan_l1_x2 : Head := ⟨[(11, (.ref 64000000 []))], [(64000000, 38, (.st (.pr .str (.pr (.sl 9 .str) (.pr (.int .i64) (.int .i64))))), false)], []⟩
def spec_RunPlan_l1_F (k n : Nat) (x : spec_RunPlan_l1_h.T) (kx : Nat → St → Option ((List (List UInt8 × List (List UInt8) × Int × Int)) × Int)) : Option ((List (List UInt8 × List (List UInt8) × Int × Int)) × Int) := spec_RunPlan_l1 k n x.1.1 x.1.2.2.2.1 x.2.1.1 x.2.1.2.1 (fun (q_15 : List (List UInt8 × List (List UInt8) × Int × Int)) => kx 2 (spec_RunPlan_l1_x2.fill (((), ()), (q_15, ()), ())))
def spec_RunPlan_O (k : Nat) : Oracles ((List (List UInt8 × List (List UInt8) × Int × Int)) × Int) := ⟨fun n => bif Nat.beq n 9 then some (fun σ kx => spec_RunPlan_l0_h.get σ fun x => spec_RunPlan_l0_F k k x kx) else bif Nat.beq n 16 then some (fun σ kx => spec_RunPlan_l1_h.get σ fun x => spec_RunPlan_l1_F k k x kx) else none, fun _ => none⟩
def fe_spec_RunPlan (k : Nat) : FE := ⟨(.pr (.sl 38 (.st (.pr .str (.pr (.sl 9 .str) (.pr (.int .i64) (.int .i64)))))) (.pr .str (.int .i64))), 2, (.pr (.sl 38 (.st (.pr .str (.pr (.sl 9 .str) (.pr (.int .i64) (.int .i64)))))) (.int .i64)), fun x => spec_RunPlan k x.1 x.2.1 x.2.2⟩
theorem spec_RunPlan_l0_ok (k : Nat) : LoopOK (mkEnv ti [(12, fe_spec_l28Ok k), (13, fe_spec_l00In), (14, fe_spec_l28Find k), (15, fe_spec_l28Plan k), (16, fe_spec_l28Own k)] (lk []) pins0 pinB0) (spec_RunPlan_O k) (rdC (mkEnv ti [(12, fe_spec_l28Ok k), (13, fe_spec_l00In), (14, fe_spec_l28Find k), (15, fe_spec_l28Plan k), (16, fe_spec_l28Own k)] (lk []) pins0 pinB0) [.tmp 6, .tmp 7] (.pr (.sl 38 (.st (.pr .str (.pr (.sl 9 .str) (.pr (.int .i64) (.int .i64)))))) (.int .i64))) ((loopsOf (codeOf Try.f5)).getD 0 .skip) (fun σ kx => spec_RunPlan_l0_h.get σ fun x => spec_RunPlan_l0_F k k x kx) := by
  refine ⟨spec_RunPlan_l0_h, [(0, spec_RunPlan_l0_x0)], fun n x kx => spec_RunPlan_l0_F k n x kx, k, by kernel_rfl, by kernel_rfl, fun x kx => by kernel_rfl, ?_, fun σ kx => rfl⟩
  rintro n ⟨⟨list0, stamp2, at8, i9, ⟨⟩⟩, ⟨⟩, ⟨⟩⟩ kx
  kernel_rfl
theorem spec_RunPlan_l1_ok (k : Nat) : LoopOK (mkEnv ti [(12, fe_spec_l28Ok k), (13, fe_spec_l00In), (14, fe_spec_l28Find k), (15, fe_spec_l28Plan k), (16, fe_spec_l28Own k)] (lk []) pins0 pinB0) (spec_RunPlan_O k) (rdC (mkEnv ti [(12, fe_spec_l28Ok k), (13, fe_spec_l00In), (14, fe_spec_l28Find k), (15, fe_spec_l28Plan k), (16, fe_spec_l28Own k)] (lk []) pins0 pinB0) [.tmp 6, .tmp 7] (.pr (.sl 38 (.st (.pr .str (.pr (.sl 9 .str) (.pr (.int .i64) (.int .i64)))))) (.int .i64))) ((loopsOf (codeOf Try.f5)).getD 1 .skip) (fun σ kx => spec_RunPlan_l1_h.get σ fun x => spec_RunPlan_l1_F k k x kx) := by
  refine ⟨spec_RunPlan_l1_h, [(2, spec_RunPlan_l1_x2)], fun n x kx => spec_RunPlan_l1_F k n x kx, k, by kernel_rfl, by kernel_rfl, fun x kx => by kernel_rfl, ?_, fun σ kx => rfl⟩
  rintro n ⟨⟨stamp2, ⟨⟩, ⟨⟩, i12, ⟨⟩⟩, ⟨q_10, q_11, ⟨⟩⟩, ⟨⟩⟩ kx
  kernel_rfl
theorem ok_spec_RunPlan (k : Nat) : FnOK Try.prog 5 (fe_spec_RunPlan k) := by
  refine closed_ok (tab := [(12, fe_spec_l28Ok k), (13, fe_spec_l00In), (14, fe_spec_l28Find k), (15, fe_spec_l28Plan k), (16, fe_spec_l28Own k)]) (l := []) ti_ok ti_ht mix (List.forall_mem_cons.2 ⟨ok_spec_l28Ok k, (List.forall_mem_cons.2 ⟨ok_spec_l00In, (List.forall_mem_cons.2 ⟨ok_spec_l28Find k, (List.forall_mem_cons.2 ⟨ok_spec_l28Plan k, (List.forall_mem_cons.2 ⟨ok_spec_l28Own k, (List.forall_mem_nil _)⟩)⟩)⟩)⟩)⟩) (List.forall_mem_nil _) ⟨⟨Try.f5, (codeOf Try.f5), [.tmp 6, .tmp 7], (spec_RunPlan_O k), by kernel_rfl, by kernel_rfl, by kernel_rfl, by kernel_rfl, rfl, by decide, ⟨by kernel_rfl, ?_, ?_⟩, ?_⟩⟩
  · refine loops_of (n := 2) (by kernel_rfl) fun i hi => ?_
    match i, hi with
    | 0, _ => exact loop_of (by kernel_rfl) (spec_RunPlan_l0_ok k)
    | 1, _ => exact loop_of (by kernel_rfl) (spec_RunPlan_l1_ok k)
    | n + 2, hi => omega
  · exact no_cuts (by kernel_rfl)
  · rintro ⟨list0, name1, stamp2⟩
    kernel_rfl
/- 52 loop.example/g01005/impl.IsName -/
def impl_IsName_l0 (k : Nat) : Nat → Int → Int → (List Int) → (Option Bool) → Option Bool
  | 0, _, _, _, _ => none
  | n + 1, x17, x18, q_1, e_0 => (if (decide (x18 < x17)) = true then (if 0 ≤ x18 ∧ x18.toNat < List.length q_1 then (q_1[x18.toNat]?).bind fun y_2 => (if (decide (97 ≤ y_2)) = true then (if (decide (48 ≤ y_2)) = true then (if (!(decide (y_2 ≤ 122))) = true then (if (decide (x18 = 0)) = true then some false else (if (!(decide (y_2 ≤ 57))) = true then some false else impl_IsName_l0 k n x17 (w_i64 (x18 + 1)) q_1 e_0)) else impl_IsName_l0 k n x17 (w_i64 (x18 + 1)) q_1 e_0) else (if (!(decide (y_2 ≤ 122))) = true then (if (decide (x18 = 0)) = true then some false else some false) else impl_IsName_l0 k n x17 (w_i64 (x18 + 1)) q_1 e_0)) else (if (decide (48 ≤ y_2)) = true then (if (decide (x18 = 0)) = true then some false else (if (!(decide (y_2 ≤ 57))) = true then some false else impl_IsName_l0 k n x17 (w_i64 (x18 + 1)) q_1 e_0)) else (if (decide (x18 = 0)) = true then some false else some false))) else none) else e_0)
def impl_IsName (k : Nat) (s0 : List UInt8) : Option Bool := (if (decide ((List.length s0 : Int) < 1)) = true then some false else (if (decide (10 < (List.length s0 : Int))) = true then some false else (if s0.length ≤ LIM then impl_IsName_l0 k k (List.length (of_S s0) : Int) 0 (of_S s0) (some true) else none)))
def impl_IsName_l0_h : Head := ⟨[(16, (.ref 64000000 [])), (17, (.val (.int .i64))), (18, (.val (.int .i64)))], [(64000000, 5, (.int .u8), true)], []⟩
def impl_IsName_l0_x0 : Head := ⟨[], [], []⟩
def impl_IsName_l0_F (k n : Nat) (x : impl_IsName_l0_h.T) (kx : Nat → St → Option Bool) : Option Bool := impl_IsName_l0 k n x.1.2.1 x.1.2.2.1 x.2.1.1 (kx 0 (impl_IsName_l0_x0.fill ((), (), ())))
def impl_IsName_O (k : Nat) : Oracles Bool := ⟨fun n => bif Nat.beq n 4 then some (fun σ kx => impl_IsName_l0_h.get σ fun x => impl_IsName_l0_F k k x kx) else none, fun _ => none⟩
def fe_impl_IsName (k : Nat) : FE := ⟨.str, 1, .bool, fun x => impl_IsName k x⟩
theorem impl_IsName_l0_ok (k : Nat) : LoopOK (mkEnv ti [] (lk []) pins0 pinB0) (impl_IsName_O k) (rdC (mkEnv ti [] (lk []) pins0 pinB0) [.tmp 2] .bool) ((loopsOf (codeOf Try.f52)).getD 0 .skip) (fun σ kx => impl_IsName_l0_h.get σ fun x => impl_IsName_l0_F k k x kx) := by
  refine ⟨impl_IsName_l0_h, [(0, impl_IsName_l0_x0)], fun n x kx => impl_IsName_l0_F k n x kx, k, by kernel_rfl, by kernel_rfl, fun x kx => by kernel_rfl, ?_, fun σ kx => rfl⟩
  rintro n ⟨⟨⟨⟩, x17, x18, ⟨⟩⟩, ⟨q_1, ⟨⟩⟩, ⟨⟩⟩ kx
  kernel_rfl
theorem ok_impl_IsName (k : Nat) : FnOK Try.prog 52 (fe_impl_IsName k) := by
  refine closed_ok (tab := []) (l := []) ti_ok ti_ht mix (List.forall_mem_nil _) (List.forall_mem_nil _) ⟨⟨Try.f52, (codeOf Try.f52), [.tmp 2], (impl_IsName_O k), by kernel_rfl, by kernel_rfl, by kernel_rfl, by kernel_rfl, rfl, by decide, ⟨by kernel_rfl, ?_, ?_⟩, ?_⟩⟩
  · refine loops_of (n := 1) (by kernel_rfl) fun i hi => ?_
    match i, hi with
    | 0, _ => exact loop_of (by kernel_rfl) (impl_IsName_l0_ok k)
    | n + 1, hi => omega
  · exact no_cuts (by kernel_rfl)
  · rintro s0
    kernel_rfl
/- 36 loop.example/g01005/impl.areNames -/
def impl_areNames_l0 (k : Nat) : Nat → (List (List UInt8)) → Int → (List (List UInt8)) → Int → Int → ((List (List UInt8)) → Int → Option Bool) → Option Bool
  | 0, _, _, _, _, _, _ => none
  | n + 1, names0, most1, x7, x8, x9, e_0 => (if (decide (x9 < x8)) = true then (if 0 ≤ x9 then (x7[x9.toNat]?).bind fun y_1 => (impl_IsName k y_1).bind fun r_2 => (if (!r_2) = true then some false else (if (decide (0 < x9)) = true then (if 0 ≤ (w_i64 (x9 - 1)) then (names0[(w_i64 (x9 - 1)).toNat]?).bind fun y_3 => (if (Op.bytesLess y_1 y_3 || decide (y_1 = y_3)) = true then some false else impl_areNames_l0 k n names0 most1 x7 x8 (w_i64 (x9 + 1)) e_0) else none) else impl_areNames_l0 k n names0 most1 x7 x8 (w_i64 (x9 + 1)) e_0)) else none) else e_0 names0 most1)
def impl_areNames (k : Nat) (names0 : List (List UInt8)) (most1 : Int) : Option Bool := impl_areNames_l0 k k names0 most1 names0 (List.length names0 : Int) 0 (fun names_4 most_5 => some (decide ((List.length names_4 : Int) ≤ most_5)))
def impl_areNames_l0_h : Head := ⟨[(0, (.val (.sl 9 .str))), (1, (.val (.int .i64))), (7, (.val (.sl 9 .str))), (8, (.val (.int .i64))), (9, (.val (.int .i64)))], [], []⟩
def impl_areNames_l0_x0 : Head := ⟨[(0, (.val (.sl 9 .str))), (1, (.val (.int .i64)))], [], []⟩
def impl_areNames_l0_F (k n : Nat) (x : impl_areNames_l0_h.T) (kx : Nat → St → Option Bool) : Option Bool := impl_areNames_l0 k n x.1.1 x.1.2.1 x.1.2.2.1 x.1.2.2.2.1 x.1.2.2.2.2.1 (fun (names0 : List (List UInt8)) (most1 : Int) => kx 0 (impl_areNames_l0_x0.fill ((names0, most1, ()), (), ())))
def impl_areNames_O (k : Nat) : Oracles Bool := ⟨fun n => bif Nat.beq n 2 then some (fun σ kx => impl_areNames_l0_h.get σ fun x => impl_areNames_l0_F k k x kx) else none, fun _ => none⟩
def fe_impl_areNames (k : Nat) : FE := ⟨(.pr (.sl 9 .str) (.int .i64)), 1, .bool, fun x => impl_areNames k x.1 x.2⟩
theorem impl_areNames_l0_ok (k : Nat) : LoopOK (mkEnv ti [(52, fe_impl_IsName k)] (lk []) pins0 pinB0) (impl_areNames_O k) (rdC (mkEnv ti [(52, fe_impl_IsName k)] (lk []) pins0 pinB0) [.tmp 4] .bool) ((loopsOf (codeOf Try.f36)).getD 0 .skip) (fun σ kx => impl_areNames_l0_h.get σ fun x => impl_areNames_l0_F k k x kx) := by
  refine ⟨impl_areNames_l0_h, [(0, impl_areNames_l0_x0)], fun n x kx => impl_areNames_l0_F k n x kx, k, by kernel_rfl, by kernel_rfl, fun x kx => by kernel_rfl, ?_, fun σ kx => rfl⟩
  rintro n ⟨⟨names0, most1, x7, x8, x9, ⟨⟩⟩, ⟨⟩, ⟨⟩⟩ kx
  kernel_rfl
theorem ok_impl_areNames (k : Nat) : FnOK Try.prog 36 (fe_impl_areNames k) := by
  refine closed_ok (tab := [(52, fe_impl_IsName k)]) (l := []) ti_ok ti_ht mix (List.forall_mem_cons.2 ⟨ok_impl_IsName k, (List.forall_mem_nil _)⟩) (List.forall_mem_nil _) ⟨⟨Try.f36, (codeOf Try.f36), [.tmp 4], (impl_areNames_O k), by kernel_rfl, by kernel_rfl, by kernel_rfl, by kernel_rfl, rfl, by decide, ⟨by kernel_rfl, ?_, ?_⟩, ?_⟩⟩
  · refine loops_of (n := 1) (by kernel_rfl) fun i hi => ?_
    match i, hi with
    | 0, _ => exact loop_of (by kernel_rfl) (impl_areNames_l0_ok k)
    | n + 1, hi => omega
  · exact no_cuts (by kernel_rfl)
  · rintro ⟨names0, most1⟩
    kernel_rfl
/- 19 loop.example/g01005/impl.within -/
def impl_within (n0 : Int) (low1 : Int) (high2 : Int) : Option Bool := (if (decide (low1 ≤ n0)) = true then some (decide (n0 ≤ high2)) else some false)
def fe_impl_within : FE := ⟨(.pr (.int .i64) (.pr (.int .i64) (.int .i64))), 1, .bool, fun x => impl_within x.1 x.2.1 x.2.2⟩
theorem ok_impl_within : FnOK Try.prog 19 (fe_impl_within) := by
  refine closed_ok (tab := []) (l := []) ti_ok ti_ht mix (List.forall_mem_nil _) (List.forall_mem_nil _) ⟨⟨Try.f19, (codeOf Try.f19), [.tmp 6], (LOn Bool), by kernel_rfl, by kernel_rfl, by kernel_rfl, by kernel_rfl, rfl, by decide, ⟨by kernel_rfl, ?_, ?_⟩, ?_⟩⟩
  · exact no_loops (by kernel_rfl)
  · exact no_cuts (by kernel_rfl)
  · rintro ⟨n0, low1, high2⟩
    kernel_rfl
/- 54 slices.Index[[]string,string] -/
def slices_Index_string_l0 (k : Nat) : Nat → (List (List UInt8)) → (List UInt8) → Int → Int → (Option Int) → Option Int
  | 0, _, _, _, _, _ => none
  | n + 1, s0, v1, x7, x8, e_0 => (if (decide (x8 < x7)) = true then (if 0 ≤ x8 then (s0[x8.toNat]?).bind fun y_1 => (if (decide (v1 = y_1)) = true then some x8 else slices_Index_string_l0 k n s0 v1 x7 (w_i64 (x8 + 1)) e_0) else none) else e_0)
def slices_Index_string (k : Nat) (s0 : List (List UInt8)) (v1 : List UInt8) : Option Int := slices_Index_string_l0 k k s0 v1 (List.length s0 : Int) 0 (some (-1))
def slices_Index_string_l0_h : Head := ⟨[(0, (.val (.sl 9 .str))), (1, (.val .str)), (7, (.val (.int .i64))), (8, (.val (.int .i64)))], [], []⟩
def slices_Index_string_l0_x0 : Head := ⟨[], [], []⟩
def slices_Index_string_l0_F (k n : Nat) (x : slices_Index_string_l0_h.T) (kx : Nat → St → Option Int) : Option Int := slices_Index_string_l0 k n x.1.1 x.1.2.1 x.1.2.2.1 x.1.2.2.2.1 (kx 0 (slices_Index_string_l0_x0.fill ((), (), ())))
def slices_Index_string_O (k : Nat) : Oracles Int := ⟨fun n => bif Nat.beq n 2 then some (fun σ kx => slices_Index_string_l0_h.get σ fun x => slices_Index_string_l0_F k k x kx) else none, fun _ => none⟩
def fe_slices_Index_string (k : Nat) : FE := ⟨(.pr (.sl 9 .str) .str), 1, (.int .i64), fun x => slices_Index_string k x.1 x.2⟩
theorem slices_Index_string_l0_ok (k : Nat) : LoopOK (mkEnv ti [] (lk []) pins0 pinB0) (slices_Index_string_O k) (rdC (mkEnv ti [] (lk []) pins0 pinB0) [.tmp 4] (.int .i64)) ((loopsOf (codeOf Try.f54)).getD 0 .skip) (fun σ kx => slices_Index_string_l0_h.get σ fun x => slices_Index_string_l0_F k k x kx) := by
  refine ⟨slices_Index_string_l0_h, [(0, slices_Index_string_l0_x0)], fun n x kx => slices_Index_string_l0_F k n x kx, k, by kernel_rfl, by kernel_rfl, fun x kx => by kernel_rfl, ?_, fun σ kx => rfl⟩
  rintro n ⟨⟨s0, v1, x7, x8, ⟨⟩⟩, ⟨⟩, ⟨⟩⟩ kx
  kernel_rfl
theorem ok_slices_Index_string (k : Nat) : FnOK Try.prog 54 (fe_slices_Index_string k) := by
  refine closed_ok (tab := []) (l := []) ti_ok ti_ht mix (List.forall_mem_nil _) (List.forall_mem_nil _) ⟨⟨Try.f54, (codeOf Try.f54), [.tmp 4], (slices_Index_string_O k), by kernel_rfl, by kernel_rfl, by kernel_rfl, by kernel_rfl, rfl, by decide, ⟨by kernel_rfl, ?_, ?_⟩, ?_⟩⟩
  · refine loops_of (n := 1) (by kernel_rfl) fun i hi => ?_
    match i, hi with
    | 0, _ => exact loop_of (by kernel_rfl) (slices_Index_string_l0_ok k)
    | n + 1, hi => omega
  · exact no_cuts (by kernel_rfl)
  · rintro ⟨s0, v1⟩
    kernel_rfl
end
end Go.Proofs.Ytmfkljkpdigenaa.Ev
