/- Functions of the program, as plain ones. No conditions. -/
import Derived.Test.YtpliblemabkikaaDoorG3
import Derived.KernelRfl
set_option linter.unusedVariables false
set_option maxRecDepth 100000
namespace Go.Proofs.YtpliblemabkikaaDoor.Ev
open Go.RowKit
noncomputable section
/- 42 loop.example/g01005/impl.belowOf -/
def impl_belowOf_l4 (k : Nat) : Nat → Int → Int → Int → Int → Int → Int → Int → Int → (List (List Bool)) → (Int → Int → Int → Int → Int → (List (List Bool)) → Option (List (List Bool))) → Option (List (List Bool))
  | 0, _, _, _, _, _, _, _, _, _, _ => none
  | n + 1, x9, a10, x49, x50, x54, x55, x59, x60, q_25, e_8 => (if (decide (x60 < x59)) = true then (if 0 ≤ a10 ∧ a10.toNat < List.length q_25 then (q_25[a10.toNat]?).bind fun y_26 => (if 0 ≤ a10 ∧ a10.toNat < List.length q_25 then (q_25[a10.toNat]?).bind fun y_27 => (q_25[a10.toNat]?).bind fun y_28 => (if 0 ≤ x60 ∧ x60.toNat < List.length y_28 then (q_25[a10.toNat]?).bind fun y_29 => (y_29[x60.toNat]?).bind fun y_30 => (if y_30 = true then (q_25[a10.toNat]?).bind fun y_31 => (if 0 ≤ x60 ∧ x60.toNat < List.length y_31 then (q_25[a10.toNat]?).bind fun y_32 => (y_32[x60.toNat]?).bind fun y_33 => (q_25[a10.toNat]?).bind fun y_34 => (y_34[x60.toNat]?).bind fun y_35 => impl_belowOf_l4 k n x9 a10 x49 x50 x54 x55 x59 (w_i64 (x60 + 1)) (q_25.set a10.toNat (y_34.set x60.toNat true)) e_8 else none) else (if 0 ≤ a10 ∧ a10.toNat < List.length q_25 then (q_25[a10.toNat]?).bind fun y_36 => (q_25[a10.toNat]?).bind fun y_37 => (if 0 ≤ x9 ∧ x9.toNat < List.length y_37 then (q_25[a10.toNat]?).bind fun y_38 => (y_38[x9.toNat]?).bind fun y_39 => (if y_39 = true then (if 0 ≤ x9 ∧ x9.toNat < List.length q_25 then (q_25[x9.toNat]?).bind fun y_40 => (q_25[x9.toNat]?).bind fun y_41 => (if 0 ≤ x60 ∧ x60.toNat < List.length y_41 then (q_25[x9.toNat]?).bind fun y_42 => (y_42[x60.toNat]?).bind fun y_43 => (q_25[a10.toNat]?).bind fun y_44 => (if 0 ≤ x60 ∧ x60.toNat < List.length y_44 then (q_25[a10.toNat]?).bind fun y_45 => (y_45[x60.toNat]?).bind fun y_46 => (q_25[a10.toNat]?).bind fun y_47 => (y_47[x60.toNat]?).bind fun y_48 => impl_belowOf_l4 k n x9 a10 x49 x50 x54 x55 x59 (w_i64 (x60 + 1)) (q_25.set a10.toNat (y_47.set x60.toNat y_43)) e_8 else none) else none) else none) else (q_25[a10.toNat]?).bind fun y_49 => (if 0 ≤ x60 ∧ x60.toNat < List.length y_49 then (q_25[a10.toNat]?).bind fun y_50 => (y_50[x60.toNat]?).bind fun y_51 => (q_25[a10.toNat]?).bind fun y_52 => (y_52[x60.toNat]?).bind fun y_53 => impl_belowOf_l4 k n x9 a10 x49 x50 x54 x55 x59 (w_i64 (x60 + 1)) (q_25.set a10.toNat (y_52.set x60.toNat false)) e_8 else none)) else none) else none)) else none) else none) else none) else e_8 x9 x49 x50 x54 x55 q_25)
def impl_belowOf_l3 (k : Nat) : Nat → Int → Int → Int → Int → Int → (List (List Bool)) → (Int → Int → (List (List Bool)) → Option (List (List Bool))) → Option (List (List Bool))
  | 0, _, _, _, _, _, _, _ => none
  | n + 1, x9, x49, x50, x54, x55, q_24, e_6 => (if (decide (x55 < x54)) = true then impl_belowOf_l4 k k x9 x55 x49 x50 x54 x55 (List.length q_24 : Int) 0 q_24 (fun x_25 x_26 x_27 x_28 x_29 q_30 => impl_belowOf_l3 k n x_25 x_26 x_27 x_28 (w_i64 (x_29 + 1)) q_30 e_6) else e_6 x49 x50 q_24)
def impl_belowOf_l0 (k : Nat) : Nat → Int → (List (List Int)) → Int → Int → (List (List Bool)) → ((List (List Int)) → (List (List Bool)) → Option (List (List Bool))) → Option (List (List Bool))
  | 0, _, _, _, _, _, _ => none
  | n + 1, n0, pairs1, x15, x16, q_1, e_0 => (if (decide (x16 < x15)) = true then (if 0 ≤ n0 ∧ n0 ≤ n0 ∧ n0 * 1 ≤ LIM then (if 0 ≤ x16 ∧ x16.toNat < List.length q_1 then (q_1[x16.toNat]?).bind fun y_2 => (q_1[x16.toNat]?).bind fun y_3 => (if 0 ≤ x16 ∧ x16.toNat < List.length (q_1.set x16.toNat (List.replicate n0.toNat false)) then ((q_1.set x16.toNat (List.replicate n0.toNat false))[x16.toNat]?).bind fun y_4 => ((q_1.set x16.toNat (List.replicate n0.toNat false))[x16.toNat]?).bind fun y_5 => (if 0 ≤ x16 ∧ x16.toNat < List.length y_5 then ((q_1.set x16.toNat (List.replicate n0.toNat false))[x16.toNat]?).bind fun y_6 => (y_6[x16.toNat]?).bind fun y_7 => ((q_1.set x16.toNat (List.replicate n0.toNat false))[x16.toNat]?).bind fun y_8 => (y_8[x16.toNat]?).bind fun y_9 => impl_belowOf_l0 k n n0 pairs1 x15 (w_i64 (x16 + 1)) ((q_1.set x16.toNat (List.replicate n0.toNat false)).set x16.toNat (y_8.set x16.toNat true)) e_0 else none) else none) else none) else none) else e_0 pairs1 q_1)
def impl_belowOf_l1 (k : Nat) : Nat → (List (List Int)) → Int → Int → (List (List Bool)) → ((List (List Bool)) → Option (List (List Bool))) → Option (List (List Bool))
  | 0, _, _, _, _, _ => none
  | n + 1, x31, x32, x33, q_12, e_2 => (if (decide (x33 < x32)) = true then (if 0 ≤ x33 then (x31[x33.toNat]?).bind fun y_13 => (y_13[0]?).bind fun y_14 => (if 0 ≤ y_14 ∧ y_14.toNat < List.length q_12 then (q_12[y_14.toNat]?).bind fun y_15 => (y_13[1]?).bind fun y_16 => (q_12[y_14.toNat]?).bind fun y_17 => (if 0 ≤ y_16 ∧ y_16.toNat < List.length y_17 then (q_12[y_14.toNat]?).bind fun y_18 => (y_18[y_16.toNat]?).bind fun y_19 => (q_12[y_14.toNat]?).bind fun y_20 => (y_20[y_16.toNat]?).bind fun y_21 => impl_belowOf_l1 k n x31 x32 (w_i64 (x33 + 1)) (q_12.set y_14.toNat (y_20.set y_16.toNat true)) e_2 else none) else none) else none) else e_2 q_12)
def impl_belowOf_l2 (k : Nat) : Nat → Int → Int → (List (List Bool)) → ((List (List Bool)) → Option (List (List Bool))) → Option (List (List Bool))
  | 0, _, _, _, _ => none
  | n + 1, x49, x50, q_23, e_4 => (if (decide (x50 < x49)) = true then impl_belowOf_l3 k k x50 x49 x50 (List.length q_23 : Int) 0 q_23 (fun x_24 x_25 q_26 => impl_belowOf_l2 k n x_24 (w_i64 (x_25 + 1)) q_26 e_4) else e_4 q_23)
def impl_belowOf (k : Nat) (n0 : Int) (pairs1 : List (List Int)) : Option (List (List Bool)) := (if 0 ≤ n0 ∧ n0 ≤ n0 ∧ n0 * 24 ≤ LIM then impl_belowOf_l0 k k n0 pairs1 (List.length (List.replicate n0.toNat ([] : List Bool)) : Int) 0 (List.replicate n0.toNat ([] : List Bool)) (fun pairs_10 q_11 => impl_belowOf_l1 k k pairs_10 (List.length pairs_10 : Int) 0 q_11 (fun q_22 => impl_belowOf_l2 k k (List.length q_22 : Int) 0 q_22 (fun q_27 => some q_27))) else none)
def impl_belowOf_l4_h : Head := ⟨[(5, (.ref 64000000 [])), (9, (.val (.int .i64))), (10, (.val (.int .i64))), (49, (.val (.int .i64))), (50, (.val (.int .i64))), (54, (.val (.int .i64))), (55, (.val (.int .i64))), (59, (.val (.int .i64))), (60, (.val (.int .i64)))], [(64000000, 43, (.sl 4 .bool), false)], []⟩
def impl_belowOf_l4_x8 : Head := ⟨[(5, (.ref 64000000 [])), (9, (.val (.int .i64))), (49, (.val (.int .i64))), (50, (.val (.int .i64))), (54, (.val (.int .i64))), (55, (.val (.int .i64)))], [(64000000, 43, (.sl 4 .bool), false)], []⟩
def impl_belowOf_l4_F (k n : Nat) (x : impl_belowOf_l4_h.T) (kx : Nat → St → Option (List (List Bool))) : Option (List (List Bool)) := impl_belowOf_l4 k n x.1.2.1 x.1.2.2.1 x.1.2.2.2.1 x.1.2.2.2.2.1 x.1.2.2.2.2.2.1 x.1.2.2.2.2.2.2.1 x.1.2.2.2.2.2.2.2.1 x.1.2.2.2.2.2.2.2.2.1 x.2.1.1 (fun (x9 : Int) (x49 : Int) (x50 : Int) (x54 : Int) (x55 : Int) (q_54 : List (List Bool)) => kx 8 (impl_belowOf_l4_x8.fill (((), x9, x49, x50, x54, x55, ()), (q_54, ()), ())))
def impl_belowOf_l3_h : Head := ⟨[(5, (.ref 64000000 [])), (9, (.val (.int .i64))), (49, (.val (.int .i64))), (50, (.val (.int .i64))), (54, (.val (.int .i64))), (55, (.val (.int .i64)))], [(64000000, 43, (.sl 4 .bool), false)], []⟩
def impl_belowOf_l3_x6 : Head := ⟨[(5, (.ref 64000000 [])), (49, (.val (.int .i64))), (50, (.val (.int .i64)))], [(64000000, 43, (.sl 4 .bool), false)], []⟩
def impl_belowOf_l3_F (k n : Nat) (x : impl_belowOf_l3_h.T) (kx : Nat → St → Option (List (List Bool))) : Option (List (List Bool)) := impl_belowOf_l3 k n x.1.2.1 x.1.2.2.1 x.1.2.2.2.1 x.1.2.2.2.2.1 x.1.2.2.2.2.2.1 x.2.1.1 (fun (x49 : Int) (x50 : Int) (q_60 : List (List Bool)) => kx 6 (impl_belowOf_l3_x6.fill (((), x49, x50, ()), (q_60, ()), ())))
def impl_belowOf_l0_h : Head := ⟨[(0, (.val (.int .i64))), (1, (.val (.sl 41 (.sl 2 (.int .i64))))), (5, (.ref 64000000 [])), (15, (.val (.int .i64))), (16, (.val (.int .i64)))], [(64000000, 43, (.sl 4 .bool), false)], []⟩
def impl_belowOf_l0_x0 : Head := ⟨[(1, (.val (.sl 41 (.sl 2 (.int .i64))))), (5, (.ref 64000000 []))], [(64000000, 43, (.sl 4 .bool), false)], []⟩
def impl_belowOf_l0_F (k n : Nat) (x : impl_belowOf_l0_h.T) (kx : Nat → St → Option (List (List Bool))) : Option (List (List Bool)) := impl_belowOf_l0 k n x.1.1 x.1.2.1 x.1.2.2.2.1 x.1.2.2.2.2.1 x.2.1.1 (fun (pairs1 : List (List Int)) (q_10 : List (List Bool)) => kx 0 (impl_belowOf_l0_x0.fill ((pairs1, (), ()), (q_10, ()), ())))
def impl_belowOf_l1_h : Head := ⟨[(5, (.ref 64000000 [])), (31, (.val (.sl 41 (.sl 2 (.int .i64))))), (32, (.val (.int .i64))), (33, (.val (.int .i64)))], [(64000000, 43, (.sl 4 .bool), false)], []⟩
def impl_belowOf_l1_x2 : Head := ⟨[(5, (.ref 64000000 []))], [(64000000, 43, (.sl 4 .bool), false)], []⟩
def impl_belowOf_l1_F (k n : Nat) (x : impl_belowOf_l1_h.T) (kx : Nat → St → Option (List (List Bool))) : Option (List (List Bool)) := impl_belowOf_l1 k n x.1.2.1 x.1.2.2.1 x.1.2.2.2.1 x.2.1.1 (fun (q_22 : List (List Bool)) => kx 2 (impl_belowOf_l1_x2.fill (((), ()), (q_22, ()), ())))
def impl_belowOf_l2_h : Head := ⟨[(5, (.ref 64000000 [])), (49, (.val (.int .i64))), (50, (.val (.int .i64)))], [(64000000, 43, (.sl 4 .bool), false)], []⟩
def impl_belowOf_l2_x4 : Head := ⟨[(5, (.ref 64000000 []))], [(64000000, 43, (.sl 4 .bool), false)], []⟩
def impl_belowOf_l2_F (k n : Nat) (x : impl_belowOf_l2_h.T) (kx : Nat → St → Option (List (List Bool))) : Option (List (List Bool)) := impl_belowOf_l2 k n x.1.2.1 x.1.2.2.1 x.2.1.1 (fun (q_34 : List (List Bool)) => kx 4 (impl_belowOf_l2_x4.fill (((), ()), (q_34, ()), ())))
def impl_belowOf_O (k : Nat) : Oracles (List (List Bool)) := ⟨fun n => bif Nat.beq n 20 then some (fun σ kx => impl_belowOf_l4_h.get σ fun x => impl_belowOf_l4_F k k x kx) else bif Nat.beq n 17 then some (fun σ kx => impl_belowOf_l3_h.get σ fun x => impl_belowOf_l3_F k k x kx) else bif Nat.beq n 3 then some (fun σ kx => impl_belowOf_l0_h.get σ fun x => impl_belowOf_l0_F k k x kx) else bif Nat.beq n 9 then some (fun σ kx => impl_belowOf_l1_h.get σ fun x => impl_belowOf_l1_F k k x kx) else bif Nat.beq n 14 then some (fun σ kx => impl_belowOf_l2_h.get σ fun x => impl_belowOf_l2_F k k x kx) else none, fun _ => none⟩
def fe_impl_belowOf (k : Nat) : FE := ⟨(.pr (.int .i64) (.sl 41 (.sl 2 (.int .i64)))), 1, (.sl 43 (.sl 4 .bool)), fun x => impl_belowOf k x.1 x.2⟩
theorem impl_belowOf_l4_ok (k : Nat) : LoopOK (mkEnv ti [] (lk []) pins0 pinB0) (impl_belowOf_O k) (rdC (mkEnv ti [] (lk []) pins0 pinB0) [.tmp 4] (.sl 43 (.sl 4 .bool))) ((loopsOf (codeOf Tryd.f42)).getD 4 .skip) (fun σ kx => impl_belowOf_l4_h.get σ fun x => impl_belowOf_l4_F k k x kx) := by
  refine ⟨impl_belowOf_l4_h, [(8, impl_belowOf_l4_x8)], fun n x kx => impl_belowOf_l4_F k n x kx, k, by kernel_rfl, by kernel_rfl, fun x kx => by kernel_rfl, ?_, fun σ kx => rfl⟩
  rintro n ⟨⟨⟨⟩, x9, a10, x49, x50, x54, x55, x59, x60, ⟨⟩⟩, ⟨q_25, ⟨⟩⟩, ⟨⟩⟩ kx
  kernel_rfl
theorem impl_belowOf_l3_ok (k : Nat) : LoopOK (mkEnv ti [] (lk []) pins0 pinB0) (impl_belowOf_O k) (rdC (mkEnv ti [] (lk []) pins0 pinB0) [.tmp 4] (.sl 43 (.sl 4 .bool))) ((loopsOf (codeOf Tryd.f42)).getD 3 .skip) (fun σ kx => impl_belowOf_l3_h.get σ fun x => impl_belowOf_l3_F k k x kx) := by
  refine ⟨impl_belowOf_l3_h, [(6, impl_belowOf_l3_x6)], fun n x kx => impl_belowOf_l3_F k n x kx, k, by kernel_rfl, by kernel_rfl, fun x kx => by kernel_rfl, ?_, fun σ kx => rfl⟩
  rintro n ⟨⟨⟨⟩, x9, x49, x50, x54, x55, ⟨⟩⟩, ⟨q_24, ⟨⟩⟩, ⟨⟩⟩ kx
  kernel_rfl
theorem impl_belowOf_l0_ok (k : Nat) : LoopOK (mkEnv ti [] (lk []) pins0 pinB0) (impl_belowOf_O k) (rdC (mkEnv ti [] (lk []) pins0 pinB0) [.tmp 4] (.sl 43 (.sl 4 .bool))) ((loopsOf (codeOf Tryd.f42)).getD 0 .skip) (fun σ kx => impl_belowOf_l0_h.get σ fun x => impl_belowOf_l0_F k k x kx) := by
  refine ⟨impl_belowOf_l0_h, [(0, impl_belowOf_l0_x0)], fun n x kx => impl_belowOf_l0_F k n x kx, k, by kernel_rfl, by kernel_rfl, fun x kx => by kernel_rfl, ?_, fun σ kx => rfl⟩
  rintro n ⟨⟨n0, pairs1, ⟨⟩, x15, x16, ⟨⟩⟩, ⟨q_1, ⟨⟩⟩, ⟨⟩⟩ kx
  kernel_rfl
theorem impl_belowOf_l1_ok (k : Nat) : LoopOK (mkEnv ti [] (lk []) pins0 pinB0) (impl_belowOf_O k) (rdC (mkEnv ti [] (lk []) pins0 pinB0) [.tmp 4] (.sl 43 (.sl 4 .bool))) ((loopsOf (codeOf Tryd.f42)).getD 1 .skip) (fun σ kx => impl_belowOf_l1_h.get σ fun x => impl_belowOf_l1_F k k x kx) := by
  refine ⟨impl_belowOf_l1_h, [(2, impl_belowOf_l1_x2)], fun n x kx => impl_belowOf_l1_F k n x kx, k, by kernel_rfl, by kernel_rfl, fun x kx => by kernel_rfl, ?_, fun σ kx => rfl⟩
  rintro n ⟨⟨⟨⟩, x31, x32, x33, ⟨⟩⟩, ⟨q_12, ⟨⟩⟩, ⟨⟩⟩ kx
  kernel_rfl
theorem impl_belowOf_l2_ok (k : Nat) : LoopOK (mkEnv ti [] (lk []) pins0 pinB0) (impl_belowOf_O k) (rdC (mkEnv ti [] (lk []) pins0 pinB0) [.tmp 4] (.sl 43 (.sl 4 .bool))) ((loopsOf (codeOf Tryd.f42)).getD 2 .skip) (fun σ kx => impl_belowOf_l2_h.get σ fun x => impl_belowOf_l2_F k k x kx) := by
  refine ⟨impl_belowOf_l2_h, [(4, impl_belowOf_l2_x4)], fun n x kx => impl_belowOf_l2_F k n x kx, k, by kernel_rfl, by kernel_rfl, fun x kx => by kernel_rfl, ?_, fun σ kx => rfl⟩
  rintro n ⟨⟨⟨⟩, x49, x50, ⟨⟩⟩, ⟨q_23, ⟨⟩⟩, ⟨⟩⟩ kx
  kernel_rfl
theorem ok_impl_belowOf (k : Nat) : FnOK Tryd.prog 42 (fe_impl_belowOf k) := by
  refine closed_ok (tab := []) (l := []) ti_ok ti_ht mix (List.forall_mem_nil _) (List.forall_mem_nil _) ⟨⟨Tryd.f42, (codeOf Tryd.f42), [.tmp 4], (impl_belowOf_O k), by kernel_rfl, by kernel_rfl, by kernel_rfl, by kernel_rfl, rfl, by decide, ⟨by kernel_rfl, ?_, ?_⟩, ?_⟩⟩
  · refine loops_of (n := 5) (by kernel_rfl) fun i hi => ?_
    match i, hi with
    | 0, _ => exact loop_of (by kernel_rfl) (impl_belowOf_l0_ok k)
    | 1, _ => exact loop_of (by kernel_rfl) (impl_belowOf_l1_ok k)
    | 2, _ => exact loop_of (by kernel_rfl) (impl_belowOf_l2_ok k)
    | 3, _ => exact loop_of (by kernel_rfl) (impl_belowOf_l3_ok k)
    | 4, _ => exact loop_of (by kernel_rfl) (impl_belowOf_l4_ok k)
    | n + 5, hi => omega
  · exact no_cuts (by kernel_rfl)
  · rintro ⟨n0, pairs1⟩
    kernel_rfl
/- 43 (loop.example/g01005/impl.below).isOrder -/
def impl_below_isOrder_l1 (k : Nat) : Nat → (List (List Bool)) → Int → Int → Int → Int → Int → ((List (List Bool)) → Int → Int → Option Bool) → Option Bool
  | 0, _, _, _, _, _, _, _ => none
  | n + 1, b0, x3, x6, x7, x10, x11, e_2 => (if (decide (x11 < x10)) = true then (if 0 ≤ x3 then (b0[x3.toNat]?).bind fun y_1 => (if 0 ≤ x11 then (y_1[x11.toNat]?).bind fun y_2 => (if y_2 = true then (if 0 ≤ x11 then (b0[x11.toNat]?).bind fun y_3 => (if 0 ≤ x3 then (y_3[x3.toNat]?).bind fun y_4 => (if y_4 = true then some false else impl_below_isOrder_l1 k n b0 x3 x6 x7 x10 (w_i64 (x11 + 1)) e_2) else none) else none) else impl_below_isOrder_l1 k n b0 x3 x6 x7 x10 (w_i64 (x11 + 1)) e_2) else none) else none) else e_2 b0 x6 x7)
def impl_below_isOrder_l0 (k : Nat) : Nat → (List (List Bool)) → Int → Int → (Option Bool) → Option Bool
  | 0, _, _, _, _ => none
  | n + 1, b0, x6, x7, e_0 => (if (decide (x7 < x6)) = true then impl_below_isOrder_l1 k k b0 x7 x6 x7 x7 0 (fun b_1 x_2 x_3 => impl_below_isOrder_l0 k n b_1 x_2 (w_i64 (x_3 + 1)) e_0) else e_0)
def impl_below_isOrder (k : Nat) (b0 : List (List Bool)) : Option Bool := impl_below_isOrder_l0 k k b0 (List.length b0 : Int) 0 (some true)
def impl_below_isOrder_l1_h : Head := ⟨[(0, (.val (.sl 43 (.sl 4 .bool)))), (3, (.val (.int .i64))), (6, (.val (.int .i64))), (7, (.val (.int .i64))), (10, (.val (.int .i64))), (11, (.val (.int .i64)))], [], []⟩
def impl_below_isOrder_l1_x2 : Head := ⟨[(0, (.val (.sl 43 (.sl 4 .bool)))), (6, (.val (.int .i64))), (7, (.val (.int .i64)))], [], []⟩
def impl_below_isOrder_l1_F (k n : Nat) (x : impl_below_isOrder_l1_h.T) (kx : Nat → St → Option Bool) : Option Bool := impl_below_isOrder_l1 k n x.1.1 x.1.2.1 x.1.2.2.1 x.1.2.2.2.1 x.1.2.2.2.2.1 x.1.2.2.2.2.2.1 (fun (b0 : List (List Bool)) (x6 : Int) (x7 : Int) => kx 2 (impl_below_isOrder_l1_x2.fill ((b0, x6, x7, ()), (), ())))
def impl_below_isOrder_l0_h : Head := ⟨[(0, (.val (.sl 43 (.sl 4 .bool)))), (6, (.val (.int .i64))), (7, (.val (.int .i64)))], [], []⟩
def impl_below_isOrder_l0_x0 : Head := ⟨[], [], []⟩
def impl_below_isOrder_l0_F (k n : Nat) (x : impl_below_isOrder_l0_h.T) (kx : Nat → St → Option Bool) : Option Bool := impl_below_isOrder_l0 k n x.1.1 x.1.2.1 x.1.2.2.1 (kx 0 (impl_below_isOrder_l0_x0.fill ((), (), ())))
def impl_below_isOrder_O (k : Nat) : Oracles Bool := ⟨fun n => bif Nat.beq n 5 then some (fun σ kx => impl_below_isOrder_l1_h.get σ fun x => impl_below_isOrder_l1_F k k x kx) else bif Nat.beq n 2 then some (fun σ kx => impl_below_isOrder_l0_h.get σ fun x => impl_below_isOrder_l0_F k k x kx) else none, fun _ => none⟩
def fe_impl_below_isOrder (k : Nat) : FE := ⟨(.sl 43 (.sl 4 .bool)), 1, .bool, fun x => impl_below_isOrder k x⟩
theorem impl_below_isOrder_l1_ok (k : Nat) : LoopOK (mkEnv ti [] (lk []) pins0 pinB0) (impl_below_isOrder_O k) (rdC (mkEnv ti [] (lk []) pins0 pinB0) [.tmp 2] .bool) ((loopsOf (codeOf Tryd.f43)).getD 1 .skip) (fun σ kx => impl_below_isOrder_l1_h.get σ fun x => impl_below_isOrder_l1_F k k x kx) := by
  refine ⟨impl_below_isOrder_l1_h, [(2, impl_below_isOrder_l1_x2)], fun n x kx => impl_below_isOrder_l1_F k n x kx, k, by kernel_rfl, by kernel_rfl, fun x kx => by kernel_rfl, ?_, fun σ kx => rfl⟩
  rintro n ⟨⟨b0, x3, x6, x7, x10, x11, ⟨⟩⟩, ⟨⟩, ⟨⟩⟩ kx
  kernel_rfl
theorem impl_below_isOrder_l0_ok (k : Nat) : LoopOK (mkEnv ti [] (lk []) pins0 pinB0) (impl_below_isOrder_O k) (rdC (mkEnv ti [] (lk []) pins0 pinB0) [.tmp 2] .bool) ((loopsOf (codeOf Tryd.f43)).getD 0 .skip) (fun σ kx => impl_below_isOrder_l0_h.get σ fun x => impl_below_isOrder_l0_F k k x kx) := by
  refine ⟨impl_below_isOrder_l0_h, [(0, impl_below_isOrder_l0_x0)], fun n x kx => impl_below_isOrder_l0_F k n x kx, k, by kernel_rfl, by kernel_rfl, fun x kx => by kernel_rfl, ?_, fun σ kx => rfl⟩
  rintro n ⟨⟨b0, x6, x7, ⟨⟩⟩, ⟨⟩, ⟨⟩⟩ kx
  kernel_rfl
theorem ok_impl_below_isOrder (k : Nat) : FnOK Tryd.prog 43 (fe_impl_below_isOrder k) := by
  refine closed_ok (tab := []) (l := []) ti_ok ti_ht mix (List.forall_mem_nil _) (List.forall_mem_nil _) ⟨⟨Tryd.f43, (codeOf Tryd.f43), [.tmp 2], (impl_below_isOrder_O k), by kernel_rfl, by kernel_rfl, by kernel_rfl, by kernel_rfl, rfl, by decide, ⟨by kernel_rfl, ?_, ?_⟩, ?_⟩⟩
  · refine loops_of (n := 2) (by kernel_rfl) fun i hi => ?_
    match i, hi with
    | 0, _ => exact loop_of (by kernel_rfl) (impl_below_isOrder_l0_ok k)
    | 1, _ => exact loop_of (by kernel_rfl) (impl_below_isOrder_l1_ok k)
    | n + 2, hi => omega
  · exact no_cuts (by kernel_rfl)
  · rintro b0
    kernel_rfl
/- 45 (loop.example/g01005/impl.below).covers -/
def impl_below_covers_l2 (k : Nat) : Nat → (List (List Bool)) → Int → Int → Bool → Int → Int → Int → Int → Int → Int → (List (List Int)) → ((List (List Bool)) → Int → Int → Bool → Int → Int → Int → Int → (List (List Int)) → Option (List (List Int))) → Option (List (List Int))
  | 0, _, _, _, _, _, _, _, _, _, _, _, _ => none
  | n + 1, b0, x4, y5, between6, x9, x10, x14, x15, x19, x20, q_3, e_4 => (if (decide (x20 < x19)) = true then (if between6 = true then impl_below_covers_l2 k n b0 x4 y5 true x9 x10 x14 x15 x19 (w_i64 (x20 + 1)) q_3 e_4 else (if (!(decide (x20 = x4))) = true then (if (!(decide (x20 = y5))) = true then (if 0 ≤ x4 then (b0[x4.toNat]?).bind fun y_4 => (if 0 ≤ x20 then (y_4[x20.toNat]?).bind fun y_5 => (if y_5 = true then (if 0 ≤ x20 then (b0[x20.toNat]?).bind fun y_6 => (if 0 ≤ y5 then (y_6[y5.toNat]?).bind fun y_7 => impl_below_covers_l2 k n b0 x4 y5 y_7 x9 x10 x14 x15 x19 (w_i64 (x20 + 1)) q_3 e_4 else none) else none) else impl_below_covers_l2 k n b0 x4 y5 false x9 x10 x14 x15 x19 (w_i64 (x20 + 1)) q_3 e_4) else none) else none) else impl_below_covers_l2 k n b0 x4 y5 false x9 x10 x14 x15 x19 (w_i64 (x20 + 1)) q_3 e_4) else impl_below_covers_l2 k n b0 x4 y5 false x9 x10 x14 x15 x19 (w_i64 (x20 + 1)) q_3 e_4)) else e_4 b0 x4 y5 between6 x9 x10 x14 x15 q_3)
def impl_below_covers_l1 (k : Nat) : Nat → (List (List Bool)) → Int → Int → Int → Int → Int → (List (List Int)) → ((List (List Bool)) → Int → Int → (List (List Int)) → Option (List (List Int))) → Option (List (List Int))
  | 0, _, _, _, _, _, _, _, _ => none
  | n + 1, b0, x4, x9, x10, x14, x15, q_2, e_2 => (if (decide (x15 < x14)) = true then impl_below_covers_l2 k k b0 x4 x15 false x9 x10 x14 x15 (List.length b0 : Int) 0 q_2 (fun b_3 x_4 y_5 between_6 x_7 x_8 x_9 x_10 q_11 => (if (!(decide (x_4 = y_5))) = true then (if 0 ≤ x_4 then (b_3[x_4.toNat]?).bind fun y_12 => (if 0 ≤ y_5 then (y_12[y_5.toNat]?).bind fun y_13 => (if y_13 = true then (if (!between_6) = true then (if (q_11.length + [[x_4, y_5]].length) * 24 ≤ LIM then impl_below_covers_l1 k n b_3 x_4 x_7 x_8 x_9 (w_i64 (x_10 + 1)) (q_11 ++ [[x_4, y_5]]) e_2 else none) else impl_below_covers_l1 k n b_3 x_4 x_7 x_8 x_9 (w_i64 (x_10 + 1)) q_11 e_2) else impl_below_covers_l1 k n b_3 x_4 x_7 x_8 x_9 (w_i64 (x_10 + 1)) q_11 e_2) else none) else none) else impl_below_covers_l1 k n b_3 x_4 x_7 x_8 x_9 (w_i64 (x_10 + 1)) q_11 e_2)) else e_2 b0 x9 x10 q_2)
def impl_below_covers_l0 (k : Nat) : Nat → (List (List Bool)) → Int → Int → (List (List Int)) → ((List (List Int)) → Option (List (List Int))) → Option (List (List Int))
  | 0, _, _, _, _, _ => none
  | n + 1, b0, x9, x10, q_1, e_0 => (if (decide (x10 < x9)) = true then impl_below_covers_l1 k k b0 x10 x9 x10 (List.length b0 : Int) 0 q_1 (fun b_2 x_3 x_4 q_5 => impl_below_covers_l0 k n b_2 x_3 (w_i64 (x_4 + 1)) q_5 e_0) else e_0 q_1)
def impl_below_covers (k : Nat) (b0 : List (List Bool)) : Option (List (List Int)) := impl_below_covers_l0 k k b0 (List.length b0 : Int) 0 [] (fun q_6 => some q_6)
def impl_below_covers_l2_h : Head := ⟨[(0, (.val (.sl 43 (.sl 4 .bool)))), (3, (.ref 64000000 [])), (4, (.val (.int .i64))), (5, (.val (.int .i64))), (6, (.val .bool)), (9, (.val (.int .i64))), (10, (.val (.int .i64))), (14, (.val (.int .i64))), (15, (.val (.int .i64))), (19, (.val (.int .i64))), (20, (.val (.int .i64)))], [(64000000, 41, (.sl 2 (.int .i64)), false)], []⟩
def impl_below_covers_l2_x4 : Head := ⟨[(0, (.val (.sl 43 (.sl 4 .bool)))), (3, (.ref 64000000 [])), (4, (.val (.int .i64))), (5, (.val (.int .i64))), (6, (.val .bool)), (9, (.val (.int .i64))), (10, (.val (.int .i64))), (14, (.val (.int .i64))), (15, (.val (.int .i64)))], [(64000000, 41, (.sl 2 (.int .i64)), false)], []⟩
def impl_below_covers_l2_F (k n : Nat) (x : impl_below_covers_l2_h.T) (kx : Nat → St → Option (List (List Int))) : Option (List (List Int)) := impl_below_covers_l2 k n x.1.1 x.1.2.2.1 x.1.2.2.2.1 x.1.2.2.2.2.1 x.1.2.2.2.2.2.1 x.1.2.2.2.2.2.2.1 x.1.2.2.2.2.2.2.2.1 x.1.2.2.2.2.2.2.2.2.1 x.1.2.2.2.2.2.2.2.2.2.1 x.1.2.2.2.2.2.2.2.2.2.2.1 x.2.1.1 (fun (b0 : List (List Bool)) (x4 : Int) (y5 : Int) (between6 : Bool) (x9 : Int) (x10 : Int) (x14 : Int) (x15 : Int) (q_8 : List (List Int)) => kx 4 (impl_below_covers_l2_x4.fill ((b0, (), x4, y5, between6, x9, x10, x14, x15, ()), (q_8, ()), ())))
def impl_below_covers_l1_h : Head := ⟨[(0, (.val (.sl 43 (.sl 4 .bool)))), (3, (.ref 64000000 [])), (4, (.val (.int .i64))), (9, (.val (.int .i64))), (10, (.val (.int .i64))), (14, (.val (.int .i64))), (15, (.val (.int .i64)))], [(64000000, 41, (.sl 2 (.int .i64)), false)], []⟩
def impl_below_covers_l1_x2 : Head := ⟨[(0, (.val (.sl 43 (.sl 4 .bool)))), (3, (.ref 64000000 [])), (9, (.val (.int .i64))), (10, (.val (.int .i64)))], [(64000000, 41, (.sl 2 (.int .i64)), false)], []⟩
def impl_below_covers_l1_F (k n : Nat) (x : impl_below_covers_l1_h.T) (kx : Nat → St → Option (List (List Int))) : Option (List (List Int)) := impl_below_covers_l1 k n x.1.1 x.1.2.2.1 x.1.2.2.2.1 x.1.2.2.2.2.1 x.1.2.2.2.2.2.1 x.1.2.2.2.2.2.2.1 x.2.1.1 (fun (b0 : List (List Bool)) (x9 : Int) (x10 : Int) (q_19 : List (List Int)) => kx 2 (impl_below_covers_l1_x2.fill ((b0, (), x9, x10, ()), (q_19, ()), ())))
def impl_below_covers_l0_h : Head := ⟨[(0, (.val (.sl 43 (.sl 4 .bool)))), (3, (.ref 64000000 [])), (9, (.val (.int .i64))), (10, (.val (.int .i64)))], [(64000000, 41, (.sl 2 (.int .i64)), false)], []⟩
def impl_below_covers_l0_x0 : Head := ⟨[(3, (.ref 64000000 []))], [(64000000, 41, (.sl 2 (.int .i64)), false)], []⟩
def impl_below_covers_l0_F (k n : Nat) (x : impl_below_covers_l0_h.T) (kx : Nat → St → Option (List (List Int))) : Option (List (List Int)) := impl_below_covers_l0 k n x.1.1 x.1.2.2.1 x.1.2.2.2.1 x.2.1.1 (fun (q_18 : List (List Int)) => kx 0 (impl_below_covers_l0_x0.fill (((), ()), (q_18, ()), ())))
def impl_below_covers_O (k : Nat) : Oracles (List (List Int)) := ⟨fun n => bif Nat.beq n 10 then some (fun σ kx => impl_below_covers_l2_h.get σ fun x => impl_below_covers_l2_F k k x kx) else bif Nat.beq n 6 then some (fun σ kx => impl_below_covers_l1_h.get σ fun x => impl_below_covers_l1_F k k x kx) else bif Nat.beq n 3 then some (fun σ kx => impl_below_covers_l0_h.get σ fun x => impl_below_covers_l0_F k k x kx) else none, fun _ => none⟩
def fe_impl_below_covers (k : Nat) : FE := ⟨(.sl 43 (.sl 4 .bool)), 1, (.sl 41 (.sl 2 (.int .i64))), fun x => impl_below_covers k x⟩
theorem impl_below_covers_l2_ok (k : Nat) : LoopOK (mkEnv ti [] (lk []) pins0 pinB0) (impl_below_covers_O k) (rdC (mkEnv ti [] (lk []) pins0 pinB0) [.tmp 2] (.sl 41 (.sl 2 (.int .i64)))) ((loopsOf (codeOf Tryd.f45)).getD 2 .skip) (fun σ kx => impl_below_covers_l2_h.get σ fun x => impl_below_covers_l2_F k k x kx) := by
  refine ⟨impl_below_covers_l2_h, [(4, impl_below_covers_l2_x4)], fun n x kx => impl_below_covers_l2_F k n x kx, k, by kernel_rfl, by kernel_rfl, fun x kx => by kernel_rfl, ?_, fun σ kx => rfl⟩
  rintro n ⟨⟨b0, ⟨⟩, x4, y5, between6, x9, x10, x14, x15, x19, x20, ⟨⟩⟩, ⟨q_3, ⟨⟩⟩, ⟨⟩⟩ kx
  kernel_rfl
theorem impl_below_covers_l1_ok (k : Nat) : LoopOK (mkEnv ti [] (lk []) pins0 pinB0) (impl_below_covers_O k) (rdC (mkEnv ti [] (lk []) pins0 pinB0) [.tmp 2] (.sl 41 (.sl 2 (.int .i64)))) ((loopsOf (codeOf Tryd.f45)).getD 1 .skip) (fun σ kx => impl_below_covers_l1_h.get σ fun x => impl_below_covers_l1_F k k x kx) := by
  refine ⟨impl_below_covers_l1_h, [(2, impl_below_covers_l1_x2)], fun n x kx => impl_below_covers_l1_F k n x kx, k, by kernel_rfl, by kernel_rfl, fun x kx => by kernel_rfl, ?_, fun σ kx => rfl⟩
  rintro n ⟨⟨b0, ⟨⟩, x4, x9, x10, x14, x15, ⟨⟩⟩, ⟨q_2, ⟨⟩⟩, ⟨⟩⟩ kx
  kernel_rfl
theorem impl_below_covers_l0_ok (k : Nat) : LoopOK (mkEnv ti [] (lk []) pins0 pinB0) (impl_below_covers_O k) (rdC (mkEnv ti [] (lk []) pins0 pinB0) [.tmp 2] (.sl 41 (.sl 2 (.int .i64)))) ((loopsOf (codeOf Tryd.f45)).getD 0 .skip) (fun σ kx => impl_below_covers_l0_h.get σ fun x => impl_below_covers_l0_F k k x kx) := by
  refine ⟨impl_below_covers_l0_h, [(0, impl_below_covers_l0_x0)], fun n x kx => impl_below_covers_l0_F k n x kx, k, by kernel_rfl, by kernel_rfl, fun x kx => by kernel_rfl, ?_, fun σ kx => rfl⟩
  rintro n ⟨⟨b0, ⟨⟩, x9, x10, ⟨⟩⟩, ⟨q_1, ⟨⟩⟩, ⟨⟩⟩ kx
  kernel_rfl
theorem ok_impl_below_covers (k : Nat) : FnOK Tryd.prog 45 (fe_impl_below_covers k) := by
  refine closed_ok (tab := []) (l := []) ti_ok ti_ht mix (List.forall_mem_nil _) (List.forall_mem_nil _) ⟨⟨Tryd.f45, (codeOf Tryd.f45), [.tmp 2], (impl_below_covers_O k), by kernel_rfl, by kernel_rfl, by kernel_rfl, by kernel_rfl, rfl, by decide, ⟨by kernel_rfl, ?_, ?_⟩, ?_⟩⟩
  · refine loops_of (n := 3) (by kernel_rfl) fun i hi => ?_
    match i, hi with
    | 0, _ => exact loop_of (by kernel_rfl) (impl_below_covers_l0_ok k)
    | 1, _ => exact loop_of (by kernel_rfl) (impl_below_covers_l1_ok k)
    | 2, _ => exact loop_of (by kernel_rfl) (impl_below_covers_l2_ok k)
    | n + 3, hi => omega
  · exact no_cuts (by kernel_rfl)
  · rintro b0
    kernel_rfl
/- 61 slices.Equal[[]int64,int64] -/
def slices_Equal_int64_l0 (k : Nat) : Nat → (List Int) → (List Int) → Int → Int → (Option Bool) → Option Bool
  | 0, _, _, _, _, _ => none
  | n + 1, s10, s21, x12, x13, e_0 => (if (decide (x13 < x12)) = true then (if 0 ≤ x13 then (s10[x13.toNat]?).bind fun y_1 => (if 0 ≤ x13 then (s21[x13.toNat]?).bind fun y_2 => (if (!(decide (y_1 = y_2))) = true then some false else slices_Equal_int64_l0 k n s10 s21 x12 (w_i64 (x13 + 1)) e_0) else none) else none) else e_0)
def slices_Equal_int64 (k : Nat) (s10 : List Int) (s21 : List Int) : Option Bool := (if (!(decide ((List.length s10 : Int) = (List.length s21 : Int)))) = true then some false else slices_Equal_int64_l0 k k s10 s21 (List.length s10 : Int) 0 (some true))
def slices_Equal_int64_l0_h : Head := ⟨[(0, (.val (.sl 2 (.int .i64)))), (1, (.val (.sl 2 (.int .i64)))), (12, (.val (.int .i64))), (13, (.val (.int .i64)))], [], []⟩
def slices_Equal_int64_l0_x0 : Head := ⟨[], [], []⟩
def slices_Equal_int64_l0_F (k n : Nat) (x : slices_Equal_int64_l0_h.T) (kx : Nat → St → Option Bool) : Option Bool := slices_Equal_int64_l0 k n x.1.1 x.1.2.1 x.1.2.2.1 x.1.2.2.2.1 (kx 0 (slices_Equal_int64_l0_x0.fill ((), (), ())))
def slices_Equal_int64_O (k : Nat) : Oracles Bool := ⟨fun n => bif Nat.beq n 4 then some (fun σ kx => slices_Equal_int64_l0_h.get σ fun x => slices_Equal_int64_l0_F k k x kx) else none, fun _ => none⟩
def fe_slices_Equal_int64 (k : Nat) : FE := ⟨(.pr (.sl 2 (.int .i64)) (.sl 2 (.int .i64))), 1, .bool, fun x => slices_Equal_int64 k x.1 x.2⟩
theorem slices_Equal_int64_l0_ok (k : Nat) : LoopOK (mkEnv ti [] (lk []) pins0 pinB0) (slices_Equal_int64_O k) (rdC (mkEnv ti [] (lk []) pins0 pinB0) [.tmp 4] .bool) ((loopsOf (codeOf Tryd.f61)).getD 0 .skip) (fun σ kx => slices_Equal_int64_l0_h.get σ fun x => slices_Equal_int64_l0_F k k x kx) := by
  refine ⟨slices_Equal_int64_l0_h, [(0, slices_Equal_int64_l0_x0)], fun n x kx => slices_Equal_int64_l0_F k n x kx, k, by kernel_rfl, by kernel_rfl, fun x kx => by kernel_rfl, ?_, fun σ kx => rfl⟩
  rintro n ⟨⟨s10, s21, x12, x13, ⟨⟩⟩, ⟨⟩, ⟨⟩⟩ kx
  kernel_rfl
theorem ok_slices_Equal_int64 (k : Nat) : FnOK Tryd.prog 61 (fe_slices_Equal_int64 k) := by
  refine closed_ok (tab := []) (l := []) ti_ok ti_ht mix (List.forall_mem_nil _) (List.forall_mem_nil _) ⟨⟨Tryd.f61, (codeOf Tryd.f61), [.tmp 4], (slices_Equal_int64_O k), by kernel_rfl, by kernel_rfl, by kernel_rfl, by kernel_rfl, rfl, by decide, ⟨by kernel_rfl, ?_, ?_⟩, ?_⟩⟩
  · refine loops_of (n := 1) (by kernel_rfl) fun i hi => ?_
    match i, hi with
    | 0, _ => exact loop_of (by kernel_rfl) (slices_Equal_int64_l0_ok k)
    | n + 1, hi => omega
  · exact no_cuts (by kernel_rfl)
  · rintro ⟨s10, s21⟩
    kernel_rfl
/- 60 slices.EqualFunc[[][]int64,[][]int64,[]int64,[]int64] -/
def slices_EqualFunc_int64__slices_Equal_int64_l0 (k : Nat) : Nat → (List (List Int)) → Unit → (List (List Int)) → Int → Int → (Option Bool) → Option Bool
  | 0, _, _, _, _, _, _ => none
  | n + 1, s21, eq2, x15, x16, x17, e_0 => (if (decide (x17 < x16)) = true then (if 0 ≤ x17 then (x15[x17.toNat]?).bind fun y_1 => (if 0 ≤ x17 then (s21[x17.toNat]?).bind fun y_2 => (slices_Equal_int64 k y_1 y_2).bind fun r_3 => (if (!r_3) = true then some false else slices_EqualFunc_int64__slices_Equal_int64_l0 k n s21 eq2 x15 x16 (w_i64 (x17 + 1)) e_0) else none) else none) else e_0)
def slices_EqualFunc_int64__slices_Equal_int64 (k : Nat) (s10 : List (List Int)) (s21 : List (List Int)) (eq2 : Unit) : Option Bool := (if (!(decide ((List.length s10 : Int) = (List.length s21 : Int)))) = true then some false else slices_EqualFunc_int64__slices_Equal_int64_l0 k k s21 eq2 s10 (List.length s10 : Int) 0 (some true))
def slices_EqualFunc_int64__slices_Equal_int64_l0_h : Head := ⟨[(1, (.val (.sl 41 (.sl 2 (.int .i64))))), (2, (.val (.fn 61 .un))), (15, (.val (.sl 41 (.sl 2 (.int .i64))))), (16, (.val (.int .i64))), (17, (.val (.int .i64)))], [], []⟩
def slices_EqualFunc_int64__slices_Equal_int64_l0_x0 : Head := ⟨[], [], []⟩
def slices_EqualFunc_int64__slices_Equal_int64_l0_F (k n : Nat) (x : slices_EqualFunc_int64__slices_Equal_int64_l0_h.T) (kx : Nat → St → Option Bool) : Option Bool := slices_EqualFunc_int64__slices_Equal_int64_l0 k n x.1.1 x.1.2.1 x.1.2.2.1 x.1.2.2.2.1 x.1.2.2.2.2.1 (kx 0 (slices_EqualFunc_int64__slices_Equal_int64_l0_x0.fill ((), (), ())))
def slices_EqualFunc_int64__slices_Equal_int64_O (k : Nat) : Oracles Bool := ⟨fun n => bif Nat.beq n 4 then some (fun σ kx => slices_EqualFunc_int64__slices_Equal_int64_l0_h.get σ fun x => slices_EqualFunc_int64__slices_Equal_int64_l0_F k k x kx) else none, fun _ => none⟩
def fe_slices_EqualFunc_int64__slices_Equal_int64 (k : Nat) : FE := ⟨(.pr (.sl 41 (.sl 2 (.int .i64))) (.pr (.sl 41 (.sl 2 (.int .i64))) (.fn 61 .un))), 1, .bool, fun x => slices_EqualFunc_int64__slices_Equal_int64 k x.1 x.2.1 x.2.2⟩
theorem slices_EqualFunc_int64__slices_Equal_int64_l0_ok (k : Nat) : LoopOK (mkEnv ti [(61, fe_slices_Equal_int64 k)] (lk []) pins0 pinB0) (slices_EqualFunc_int64__slices_Equal_int64_O k) (rdC (mkEnv ti [(61, fe_slices_Equal_int64 k)] (lk []) pins0 pinB0) [.tmp 6] .bool) ((loopsOf (codeOf Tryd.f60)).getD 0 .skip) (fun σ kx => slices_EqualFunc_int64__slices_Equal_int64_l0_h.get σ fun x => slices_EqualFunc_int64__slices_Equal_int64_l0_F k k x kx) := by
  refine ⟨slices_EqualFunc_int64__slices_Equal_int64_l0_h, [(0, slices_EqualFunc_int64__slices_Equal_int64_l0_x0)], fun n x kx => slices_EqualFunc_int64__slices_Equal_int64_l0_F k n x kx, k, by kernel_rfl, by kernel_rfl, fun x kx => by kernel_rfl, ?_, fun σ kx => rfl⟩
  rintro n ⟨⟨s21, eq2, x15, x16, x17, ⟨⟩⟩, ⟨⟩, ⟨⟩⟩ kx
  kernel_rfl
theorem ok_slices_EqualFunc_int64__slices_Equal_int64 (k : Nat) : FnOK Tryd.prog 60 (fe_slices_EqualFunc_int64__slices_Equal_int64 k) := by
  refine closed_ok (tab := [(61, fe_slices_Equal_int64 k)]) (l := []) ti_ok ti_ht mix (List.forall_mem_cons.2 ⟨ok_slices_Equal_int64 k, (List.forall_mem_nil _)⟩) (List.forall_mem_nil _) ⟨⟨Tryd.f60, (codeOf Tryd.f60), [.tmp 6], (slices_EqualFunc_int64__slices_Equal_int64_O k), by kernel_rfl, by kernel_rfl, by kernel_rfl, by kernel_rfl, rfl, by decide, ⟨by kernel_rfl, ?_, ?_⟩, ?_⟩⟩
  · refine loops_of (n := 1) (by kernel_rfl) fun i hi => ?_
    match i, hi with
    | 0, _ => exact loop_of (by kernel_rfl) (slices_EqualFunc_int64__slices_Equal_int64_l0_ok k)
    | n + 1, hi => omega
  · exact no_cuts (by kernel_rfl)
  · rintro ⟨s10, s21, eq2⟩
    kernel_rfl
/- 44 loop.example/g01005/impl.areSame -/
def impl_areSame (k : Nat) (a0 : List (List Int)) (b1 : List (List Int)) : Option Bool := (slices_EqualFunc_int64__slices_Equal_int64 k a0 b1 ()).bind fun r_1 => some r_1
def fe_impl_areSame (k : Nat) : FE := ⟨(.pr (.sl 41 (.sl 2 (.int .i64))) (.sl 41 (.sl 2 (.int .i64)))), 1, .bool, fun x => impl_areSame k x.1 x.2⟩
theorem ok_impl_areSame (k : Nat) : FnOK Tryd.prog 44 (fe_impl_areSame k) := by
  refine closed_ok (tab := [(60, fe_slices_EqualFunc_int64__slices_Equal_int64 k)]) (l := []) ti_ok ti_ht mix (List.forall_mem_cons.2 ⟨ok_slices_EqualFunc_int64__slices_Equal_int64 k, (List.forall_mem_nil _)⟩) (List.forall_mem_nil _) ⟨⟨Tryd.f44, (codeOf Tryd.f44), [.tmp 4], (LOn Bool), by kernel_rfl, by kernel_rfl, by kernel_rfl, by kernel_rfl, rfl, by decide, ⟨by kernel_rfl, ?_, ?_⟩, ?_⟩⟩
  · exact no_loops (by kernel_rfl)
  · exact no_cuts (by kernel_rfl)
  · rintro ⟨a0, b1⟩
    kernel_rfl
/- 22 loop.example/g01005/impl.ValidPoset -/
def impl_ValidPoset (k : Nat) (p0 : Int × List (List Int)) : Option Bool := (impl_isSize p0.1).bind fun r_1 => (if (!r_1) = true then some false else (if (decide (30 < (List.length p0.2 : Int))) = true then some false else (impl_arePairs k p0.1 p0.2).bind fun r_2 => (if (!r_2) = true then some false else (impl_belowOf k p0.1 p0.2).bind fun r_3 => (impl_below_isOrder k r_3).bind fun r_4 => (if r_4 = true then (impl_below_covers k r_3).bind fun r_5 => (impl_areSame k r_5 p0.2).bind fun r_6 => some r_6 else some false))))
def fe_impl_ValidPoset (k : Nat) : FE := ⟨(.st (.pr (.int .i64) (.sl 41 (.sl 2 (.int .i64))))), 1, .bool, fun x => impl_ValidPoset k x⟩
theorem ok_impl_ValidPoset (k : Nat) : FnOK Tryd.prog 22 (fe_impl_ValidPoset k) := by
  refine closed_ok (tab := [(40, fe_impl_isSize), (41, fe_impl_arePairs k), (42, fe_impl_belowOf k), (43, fe_impl_below_isOrder k), (45, fe_impl_below_covers k), (44, fe_impl_areSame k)]) (l := []) ti_ok ti_ht mix (List.forall_mem_cons.2 ⟨ok_impl_isSize, (List.forall_mem_cons.2 ⟨ok_impl_arePairs k, (List.forall_mem_cons.2 ⟨ok_impl_belowOf k, (List.forall_mem_cons.2 ⟨ok_impl_below_isOrder k, (List.forall_mem_cons.2 ⟨ok_impl_below_covers k, (List.forall_mem_cons.2 ⟨ok_impl_areSame k, (List.forall_mem_nil _)⟩)⟩)⟩)⟩)⟩)⟩) (List.forall_mem_nil _) ⟨⟨Tryd.f22, (codeOf Tryd.f22), [.tmp 2], (LOn Bool), by kernel_rfl, by kernel_rfl, by kernel_rfl, by kernel_rfl, rfl, by decide, ⟨by kernel_rfl, ?_, ?_⟩, ?_⟩⟩
  · exact no_loops (by kernel_rfl)
  · exact no_cuts (by kernel_rfl)
  · rintro p0
    kernel_rfl
/- 46 (loop.example/g01005/impl.Poset).order -/
def impl_Poset_order (k : Nat) (p0 : Int × List (List Int)) : Option (List (List Bool)) := (impl_belowOf k p0.1 p0.2).bind fun r_1 => some r_1
def fe_impl_Poset_order (k : Nat) : FE := ⟨(.st (.pr (.int .i64) (.sl 41 (.sl 2 (.int .i64))))), 1, (.sl 43 (.sl 4 .bool)), fun x => impl_Poset_order k x⟩
theorem ok_impl_Poset_order (k : Nat) : FnOK Tryd.prog 46 (fe_impl_Poset_order k) := by
  refine closed_ok (tab := [(42, fe_impl_belowOf k)]) (l := []) ti_ok ti_ht mix (List.forall_mem_cons.2 ⟨ok_impl_belowOf k, (List.forall_mem_nil _)⟩) (List.forall_mem_nil _) ⟨⟨Tryd.f46, (codeOf Tryd.f46), [.tmp 2], (LOn (List (List Bool))), by kernel_rfl, by kernel_rfl, by kernel_rfl, by kernel_rfl, rfl, by decide, ⟨by kernel_rfl, ?_, ?_⟩, ?_⟩⟩
  · exact no_loops (by kernel_rfl)
  · exact no_cuts (by kernel_rfl)
  · rintro p0
    kernel_rfl
/- 62 slices.Index[[]int64,int64] -/
def slices_Index_int64_l0 (k : Nat) : Nat → (List Int) → Int → Int → Int → (Option Int) → Option Int
  | 0, _, _, _, _, _ => none
  | n + 1, s0, v1, x7, x8, e_0 => (if (decide (x8 < x7)) = true then (if 0 ≤ x8 then (s0[x8.toNat]?).bind fun y_1 => (if (decide (v1 = y_1)) = true then some x8 else slices_Index_int64_l0 k n s0 v1 x7 (w_i64 (x8 + 1)) e_0) else none) else e_0)
def slices_Index_int64 (k : Nat) (s0 : List Int) (v1 : Int) : Option Int := slices_Index_int64_l0 k k s0 v1 (List.length s0 : Int) 0 (some (-1))
def slices_Index_int64_l0_h : Head := ⟨[(0, (.val (.sl 2 (.int .i64)))), (1, (.val (.int .i64))), (7, (.val (.int .i64))), (8, (.val (.int .i64)))], [], []⟩
def slices_Index_int64_l0_x0 : Head := ⟨[], [], []⟩
def slices_Index_int64_l0_F (k n : Nat) (x : slices_Index_int64_l0_h.T) (kx : Nat → St → Option Int) : Option Int := slices_Index_int64_l0 k n x.1.1 x.1.2.1 x.1.2.2.1 x.1.2.2.2.1 (kx 0 (slices_Index_int64_l0_x0.fill ((), (), ())))
def slices_Index_int64_O (k : Nat) : Oracles Int := ⟨fun n => bif Nat.beq n 2 then some (fun σ kx => slices_Index_int64_l0_h.get σ fun x => slices_Index_int64_l0_F k k x kx) else none, fun _ => none⟩
def fe_slices_Index_int64 (k : Nat) : FE := ⟨(.pr (.sl 2 (.int .i64)) (.int .i64)), 1, (.int .i64), fun x => slices_Index_int64 k x.1 x.2⟩
theorem slices_Index_int64_l0_ok (k : Nat) : LoopOK (mkEnv ti [] (lk []) pins0 pinB0) (slices_Index_int64_O k) (rdC (mkEnv ti [] (lk []) pins0 pinB0) [.tmp 4] (.int .i64)) ((loopsOf (codeOf Tryd.f62)).getD 0 .skip) (fun σ kx => slices_Index_int64_l0_h.get σ fun x => slices_Index_int64_l0_F k k x kx) := by
  refine ⟨slices_Index_int64_l0_h, [(0, slices_Index_int64_l0_x0)], fun n x kx => slices_Index_int64_l0_F k n x kx, k, by kernel_rfl, by kernel_rfl, fun x kx => by kernel_rfl, ?_, fun σ kx => rfl⟩
  rintro n ⟨⟨s0, v1, x7, x8, ⟨⟩⟩, ⟨⟩, ⟨⟩⟩ kx
  kernel_rfl
theorem ok_slices_Index_int64 (k : Nat) : FnOK Tryd.prog 62 (fe_slices_Index_int64 k) := by
  refine closed_ok (tab := []) (l := []) ti_ok ti_ht mix (List.forall_mem_nil _) (List.forall_mem_nil _) ⟨⟨Tryd.f62, (codeOf Tryd.f62), [.tmp 4], (slices_Index_int64_O k), by kernel_rfl, by kernel_rfl, by kernel_rfl, by kernel_rfl, rfl, by decide, ⟨by kernel_rfl, ?_, ?_⟩, ?_⟩⟩
  · refine loops_of (n := 1) (by kernel_rfl) fun i hi => ?_
    match i, hi with
    | 0, _ => exact loop_of (by kernel_rfl) (slices_Index_int64_l0_ok k)
    | n + 1, hi => omega
  · exact no_cuts (by kernel_rfl)
  · rintro ⟨s0, v1⟩
    kernel_rfl
end
end Go.Proofs.YtpliblemabkikaaDoor.Ev
