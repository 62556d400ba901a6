/- Functions of the program, as plain ones. No conditions. -/
import Derived.Test.YtpliblemabkikaaDoorG2
import Derived.KernelRfl
set_option linter.unusedVariables false
set_option maxRecDepth 100000
namespace Go.Proofs.YtpliblemabkikaaDoor.Ev
open Go.RowKit
noncomputable section
/- 5 loop.example/g01005/spec.PosetPicture -/
def spec_PosetPicture_l1 (k : Nat) : Nat → Int → Int → Int → Int → (List (List Bool)) → (List Int) → (List Int) → (Int × List (List Int)) → (Int → Int → Int → (List (List Bool)) → (List Int) → (List Int) → (Int × List (List Int)) → Option (List (List UInt8) × Int)) → Option (List (List UInt8) × Int)
  | 0, _, _, _, _, _, _, _, _, _ => none
  | n + 1, most7, i8, a9, k10, q_10, q_11, q_12, v_1, e_2 => (if (decide (k10 < i8)) = true then (if 0 ≤ k10 ∧ k10.toNat < List.length q_11 then (q_11[k10.toNat]?).bind fun y_13 => (if 0 ≤ y_13 ∧ y_13.toNat < List.length q_10 then (q_10[y_13.toNat]?).bind fun y_14 => (q_10[y_13.toNat]?).bind fun y_15 => (if 0 ≤ a9 ∧ a9.toNat < List.length y_15 then (q_10[y_13.toNat]?).bind fun y_16 => (y_16[a9.toNat]?).bind fun y_17 => (if y_17 = true then (if 0 ≤ a9 ∧ a9.toNat < List.length q_12 then (q_12[a9.toNat]?).bind fun y_18 => (if 0 ≤ k10 ∧ k10.toNat < List.length q_11 then (q_11[k10.toNat]?).bind fun y_19 => (if 0 ≤ y_19 ∧ y_19.toNat < List.length q_12 then (q_12[y_19.toNat]?).bind fun y_20 => (spec_l00Max y_18 (w_i64 (y_20 + 1))).bind fun r_21 => (if 0 ≤ a9 ∧ a9.toNat < List.length q_12 then (q_12[a9.toNat]?).bind fun y_22 => (q_12[a9.toNat]?).bind fun y_23 => spec_PosetPicture_l1 k n most7 i8 a9 (w_i64 (k10 + 1)) q_10 q_11 (q_12.set a9.toNat r_21) v_1 e_2 else none) else none) else none) else none) else spec_PosetPicture_l1 k n most7 i8 a9 (w_i64 (k10 + 1)) q_10 q_11 q_12 v_1 e_2) else none) else none) else none) else e_2 most7 i8 a9 q_10 q_11 q_12 v_1)
def spec_PosetPicture_l3 (k : Nat) : Nat → Int → (List UInt8) → Int → (List Int) → (List (List UInt8)) → (Int × List (List Int)) → (Int → (List UInt8) → (List Int) → (List (List UInt8)) → (Int × List (List Int)) → Option (List (List UInt8) × Int)) → Option (List (List UInt8) × Int)
  | 0, _, _, _, _, _, _, _ => none
  | n + 1, h12, line13, a14, q_24, q_25, v_1, e_6 => (if (decide (a14 < v_1.1)) = true then (if 0 ≤ a14 ∧ a14.toNat < List.length q_24 then (q_24[a14.toNat]?).bind fun y_26 => (if (!(decide (y_26 = h12))) = true then spec_PosetPicture_l3 k n h12 line13 (w_i64 (a14 + 1)) q_24 q_25 v_1 e_6 else (if (!(decide (line13 = []))) = true then (if line13.length + [32].length ≤ 9223372036854775807 then (spec_l01Dec k a14).bind fun r_27 => (if (line13 ++ [32]).length + r_27.length ≤ 9223372036854775807 then spec_PosetPicture_l3 k n h12 ((line13 ++ [32]) ++ r_27) (w_i64 (a14 + 1)) q_24 q_25 v_1 e_6 else none) else none) else (spec_l01Dec k a14).bind fun r_28 => (if line13.length + r_28.length ≤ 9223372036854775807 then spec_PosetPicture_l3 k n h12 (line13 ++ r_28) (w_i64 (a14 + 1)) q_24 q_25 v_1 e_6 else none))) else none) else e_6 h12 line13 q_24 q_25 v_1)
def spec_PosetPicture_l0 (k : Nat) : Nat → Int → Int → (List (List Bool)) → (List Int) → (List Int) → (Int × List (List Int)) → (Int → (List Int) → (Int × List (List Int)) → Option (List (List UInt8) × Int)) → Option (List (List UInt8) × Int)
  | 0, _, _, _, _, _, _, _ => none
  | n + 1, most7, i8, q_4, q_5, q_6, v_1, e_0 => (if (decide (i8 < (List.length q_5 : Int))) = true then (if 0 ≤ i8 ∧ i8.toNat < List.length q_5 then (q_5[i8.toNat]?).bind fun y_7 => (if 0 ≤ y_7 ∧ y_7.toNat < List.length q_6 then (q_6[y_7.toNat]?).bind fun y_8 => (q_6[y_7.toNat]?).bind fun y_9 => spec_PosetPicture_l1 k k most7 i8 y_7 0 q_4 q_5 (q_6.set y_7.toNat 1) v_1 (fun most_10 i_11 a_12 q_13 q_14 q_15 v_16 => (if 0 ≤ a_12 ∧ a_12.toNat < List.length q_15 then (q_15[a_12.toNat]?).bind fun y_17 => (spec_l00Max most_10 y_17).bind fun r_18 => spec_PosetPicture_l0 k n r_18 (w_i64 (i_11 + 1)) q_13 q_14 q_15 v_16 e_0 else none)) else none) else none) else e_0 most7 q_6 v_1)
def spec_PosetPicture_l2 (k : Nat) : Nat → Int → (List Int) → (List (List UInt8)) → (Int × List (List Int)) → ((List (List UInt8)) → Option (List (List UInt8) × Int)) → Option (List (List UInt8) × Int)
  | 0, _, _, _, _, _ => none
  | n + 1, h12, q_22, q_23, v_1, e_4 => (if (decide (0 < h12)) = true then spec_PosetPicture_l3 k k h12 [] 0 q_22 q_23 v_1 (fun h_24 line_25 q_26 q_27 v_28 => (if (q_27.length + [line_25].length) * 16 ≤ LIM then spec_PosetPicture_l2 k n (w_i64 (h_24 - 1)) q_26 (q_27 ++ [line_25]) v_28 e_4 else none)) else e_4 q_23)
def spec_PosetPicture (k : Nat) (p0 : Int × List (List Int)) : Option (List (List UInt8) × Int) := (spec_l06Ok k p0).bind fun r_1 => (if (!r_1) = true then some ([], 1) else (spec_l06Order k p0).bind fun r_2 => (spec_l06First k r_2).bind fun r_3 => (if 0 ≤ p0.1 ∧ p0.1 ≤ p0.1 ∧ p0.1 * 8 ≤ LIM then spec_PosetPicture_l0 k k 0 0 r_2 r_3 (List.replicate p0.1.toNat 0) p0 (fun most_19 q_20 v_21 => spec_PosetPicture_l2 k k most_19 q_20 [] v_21 (fun q_29 => (spec_l30Even k q_29).bind fun r_30 => (spec_l30Done_g k r_30).bind fun y_31 => some (y_31.2.1.1, y_31.1.1.2.1))) else none))
def spec_PosetPicture_l1_h : Head := ⟨[(1, (.bp 1 [] 0)), (4, (.ref 64000000 [])), (5, (.ref 64000001 [])), (6, (.ref 64000002 [])), (7, (.val (.int .i64))), (8, (.val (.int .i64))), (9, (.val (.int .i64))), (10, (.val (.int .i64)))], [(64000000, 43, (.sl 4 .bool), false), (64000001, 2, (.int .i64), false), (64000002, 2, (.int .i64), false)], [(1, 29, (.val (.st (.pr (.int .i64) (.sl 41 (.sl 2 (.int .i64)))))))]⟩
def spec_PosetPicture_l1_x2 : Head := ⟨[(1, (.bp 1 [] 0)), (4, (.ref 64000000 [])), (5, (.ref 64000001 [])), (6, (.ref 64000002 [])), (7, (.val (.int .i64))), (8, (.val (.int .i64))), (9, (.val (.int .i64)))], [(64000000, 43, (.sl 4 .bool), false), (64000001, 2, (.int .i64), false), (64000002, 2, (.int .i64), false)], [(1, 29, (.val (.st (.pr (.int .i64) (.sl 41 (.sl 2 (.int .i64)))))))]⟩
def spec_PosetPicture_l1_F (k n : Nat) (x : spec_PosetPicture_l1_h.T) (kx : Nat → St → Option (List (List UInt8) × Int)) : Option (List (List UInt8) × Int) := spec_PosetPicture_l1 k n x.1.2.2.2.2.1 x.1.2.2.2.2.2.1 x.1.2.2.2.2.2.2.1 x.1.2.2.2.2.2.2.2.1 x.2.1.1 x.2.1.2.1 x.2.1.2.2.1 x.2.2.1 (fun (most7 : Int) (i8 : Int) (a9 : Int) (q_24 : List (List Bool)) (q_25 : List Int) (q_26 : List Int) (v_1 : Int × List (List Int)) => kx 2 (spec_PosetPicture_l1_x2.fill (((), (), (), (), most7, i8, a9, ()), (q_24, q_25, q_26, ()), (v_1, ()))))
def spec_PosetPicture_l3_h : Head := ⟨[(1, (.bp 1 [] 0)), (6, (.ref 64000000 [])), (11, (.ref 64000001 [])), (12, (.val (.int .i64))), (13, (.val .str)), (14, (.val (.int .i64)))], [(64000000, 2, (.int .i64), false), (64000001, 9, .str, false)], [(1, 29, (.val (.st (.pr (.int .i64) (.sl 41 (.sl 2 (.int .i64)))))))]⟩
def spec_PosetPicture_l3_x6 : Head := ⟨[(1, (.bp 1 [] 0)), (6, (.ref 64000000 [])), (11, (.ref 64000001 [])), (12, (.val (.int .i64))), (13, (.val .str))], [(64000000, 2, (.int .i64), false), (64000001, 9, .str, false)], [(1, 29, (.val (.st (.pr (.int .i64) (.sl 41 (.sl 2 (.int .i64)))))))]⟩
def spec_PosetPicture_l3_F (k n : Nat) (x : spec_PosetPicture_l3_h.T) (kx : Nat → St → Option (List (List UInt8) × Int)) : Option (List (List UInt8) × Int) := spec_PosetPicture_l3 k n x.1.2.2.2.1 x.1.2.2.2.2.1 x.1.2.2.2.2.2.1 x.2.1.1 x.2.1.2.1 x.2.2.1 (fun (h12 : Int) (line13 : List UInt8) (q_29 : List Int) (q_30 : List (List UInt8)) (v_1 : Int × List (List Int)) => kx 6 (spec_PosetPicture_l3_x6.fill (((), (), (), h12, line13, ()), (q_29, q_30, ()), (v_1, ()))))
def spec_PosetPicture_l0_h : Head := ⟨[(1, (.bp 1 [] 0)), (4, (.ref 64000000 [])), (5, (.ref 64000001 [])), (6, (.ref 64000002 [])), (7, (.val (.int .i64))), (8, (.val (.int .i64)))], [(64000000, 43, (.sl 4 .bool), false), (64000001, 2, (.int .i64), false), (64000002, 2, (.int .i64), false)], [(1, 29, (.val (.st (.pr (.int .i64) (.sl 41 (.sl 2 (.int .i64)))))))]⟩
def spec_PosetPicture_l0_x0 : Head := ⟨[(1, (.bp 1 [] 0)), (6, (.ref 64000000 [])), (7, (.val (.int .i64)))], [(64000000, 2, (.int .i64), false)], [(1, 29, (.val (.st (.pr (.int .i64) (.sl 41 (.sl 2 (.int .i64)))))))]⟩
def spec_PosetPicture_l0_F (k n : Nat) (x : spec_PosetPicture_l0_h.T) (kx : Nat → St → Option (List (List UInt8) × Int)) : Option (List (List UInt8) × Int) := spec_PosetPicture_l0 k n x.1.2.2.2.2.1 x.1.2.2.2.2.2.1 x.2.1.1 x.2.1.2.1 x.2.1.2.2.1 x.2.2.1 (fun (most7 : Int) (q_33 : List Int) (v_1 : Int × List (List Int)) => kx 0 (spec_PosetPicture_l0_x0.fill (((), (), most7, ()), (q_33, ()), (v_1, ()))))
def spec_PosetPicture_l2_h : Head := ⟨[(1, (.bp 1 [] 0)), (6, (.ref 64000000 [])), (11, (.ref 64000001 [])), (12, (.val (.int .i64)))], [(64000000, 2, (.int .i64), false), (64000001, 9, .str, false)], [(1, 29, (.val (.st (.pr (.int .i64) (.sl 41 (.sl 2 (.int .i64)))))))]⟩
def spec_PosetPicture_l2_x4 : Head := ⟨[(11, (.ref 64000000 []))], [(64000000, 9, .str, false)], []⟩
def spec_PosetPicture_l2_F (k n : Nat) (x : spec_PosetPicture_l2_h.T) (kx : Nat → St → Option (List (List UInt8) × Int)) : Option (List (List UInt8) × Int) := spec_PosetPicture_l2 k n x.1.2.2.2.1 x.2.1.1 x.2.1.2.1 x.2.2.1 (fun (q_34 : List (List UInt8)) => kx 4 (spec_PosetPicture_l2_x4.fill (((), ()), (q_34, ()), ())))
def spec_PosetPicture_O (k : Nat) : Oracles (List (List UInt8) × Int) := ⟨fun n => bif Nat.beq n 13 then some (fun σ kx => spec_PosetPicture_l1_h.get σ fun x => spec_PosetPicture_l1_F k k x kx) else bif Nat.beq n 24 then some (fun σ kx => spec_PosetPicture_l3_h.get σ fun x => spec_PosetPicture_l3_F k k x kx) else bif Nat.beq n 8 then some (fun σ kx => spec_PosetPicture_l0_h.get σ fun x => spec_PosetPicture_l0_F k k x kx) else bif Nat.beq n 20 then some (fun σ kx => spec_PosetPicture_l2_h.get σ fun x => spec_PosetPicture_l2_F k k x kx) else none, fun _ => none⟩
def fe_spec_PosetPicture (k : Nat) : FE := ⟨(.st (.pr (.int .i64) (.sl 41 (.sl 2 (.int .i64))))), 2, (.pr (.sl 9 .str) (.int .i64)), fun x => spec_PosetPicture k x⟩
theorem spec_PosetPicture_l1_ok (k : Nat) : LoopOK (mkEnv ti [(14, fe_spec_l06Ok k), (15, fe_spec_l06Order k), (16, fe_spec_l06First k), (17, fe_spec_l00Max), (18, fe_spec_l01Dec k), (20, fe_spec_l30Even k)] (lk [(105, 19, oc_spec_l30Done_g k)]) pins0 pinB0) (spec_PosetPicture_O k) (rdC (mkEnv ti [(14, fe_spec_l06Ok k), (15, fe_spec_l06Order k), (16, fe_spec_l06First k), (17, fe_spec_l00Max), (18, fe_spec_l01Dec k), (20, fe_spec_l30Even k)] (lk [(105, 19, oc_spec_l30Done_g k)]) pins0 pinB0) [.tmp 2, .tmp 3] (.pr (.sl 9 .str) (.int .i64))) ((loopsOf (codeOf Tryd.f5)).getD 1 .skip) (fun σ kx => spec_PosetPicture_l1_h.get σ fun x => spec_PosetPicture_l1_F k k x kx) := by
  refine ⟨spec_PosetPicture_l1_h, [(2, spec_PosetPicture_l1_x2)], fun n x kx => spec_PosetPicture_l1_F k n x kx, k, by kernel_rfl, by kernel_rfl, fun x kx => by kernel_rfl, ?_, fun σ kx => rfl⟩
  rintro n ⟨⟨⟨⟩, ⟨⟩, ⟨⟩, ⟨⟩, most7, i8, a9, k10, ⟨⟩⟩, ⟨q_10, q_11, q_12, ⟨⟩⟩, ⟨v_1, ⟨⟩⟩⟩ kx
  kernel_rfl
theorem spec_PosetPicture_l3_ok (k : Nat) : LoopOK (mkEnv ti [(14, fe_spec_l06Ok k), (15, fe_spec_l06Order k), (16, fe_spec_l06First k), (17, fe_spec_l00Max), (18, fe_spec_l01Dec k), (20, fe_spec_l30Even k)] (lk [(105, 19, oc_spec_l30Done_g k)]) pins0 pinB0) (spec_PosetPicture_O k) (rdC (mkEnv ti [(14, fe_spec_l06Ok k), (15, fe_spec_l06Order k), (16, fe_spec_l06First k), (17, fe_spec_l00Max), (18, fe_spec_l01Dec k), (20, fe_spec_l30Even k)] (lk [(105, 19, oc_spec_l30Done_g k)]) pins0 pinB0) [.tmp 2, .tmp 3] (.pr (.sl 9 .str) (.int .i64))) ((loopsOf (codeOf Tryd.f5)).getD 3 .skip) (fun σ kx => spec_PosetPicture_l3_h.get σ fun x => spec_PosetPicture_l3_F k k x kx) := by
  refine ⟨spec_PosetPicture_l3_h, [(6, spec_PosetPicture_l3_x6)], fun n x kx => spec_PosetPicture_l3_F k n x kx, k, by kernel_rfl, by kernel_rfl, fun x kx => by kernel_rfl, ?_, fun σ kx => rfl⟩
  rintro n ⟨⟨⟨⟩, ⟨⟩, ⟨⟩, h12, line13, a14, ⟨⟩⟩, ⟨q_24, q_25, ⟨⟩⟩, ⟨v_1, ⟨⟩⟩⟩ kx
  kernel_rfl
theorem spec_PosetPicture_l0_ok (k : Nat) : LoopOK (mkEnv ti [(14, fe_spec_l06Ok k), (15, fe_spec_l06Order k), (16, fe_spec_l06First k), (17, fe_spec_l00Max), (18, fe_spec_l01Dec k), (20, fe_spec_l30Even k)] (lk [(105, 19, oc_spec_l30Done_g k)]) pins0 pinB0) (spec_PosetPicture_O k) (rdC (mkEnv ti [(14, fe_spec_l06Ok k), (15, fe_spec_l06Order k), (16, fe_spec_l06First k), (17, fe_spec_l00Max), (18, fe_spec_l01Dec k), (20, fe_spec_l30Even k)] (lk [(105, 19, oc_spec_l30Done_g k)]) pins0 pinB0) [.tmp 2, .tmp 3] (.pr (.sl 9 .str) (.int .i64))) ((loopsOf (codeOf Tryd.f5)).getD 0 .skip) (fun σ kx => spec_PosetPicture_l0_h.get σ fun x => spec_PosetPicture_l0_F k k x kx) := by
  refine ⟨spec_PosetPicture_l0_h, [(0, spec_PosetPicture_l0_x0)], fun n x kx => spec_PosetPicture_l0_F k n x kx, k, by kernel_rfl, by kernel_rfl, fun x kx => by kernel_rfl, ?_, fun σ kx => rfl⟩
  rintro n ⟨⟨⟨⟩, ⟨⟩, ⟨⟩, ⟨⟩, most7, i8, ⟨⟩⟩, ⟨q_4, q_5, q_6, ⟨⟩⟩, ⟨v_1, ⟨⟩⟩⟩ kx
  kernel_rfl
theorem spec_PosetPicture_l2_ok (k : Nat) : LoopOK (mkEnv ti [(14, fe_spec_l06Ok k), (15, fe_spec_l06Order k), (16, fe_spec_l06First k), (17, fe_spec_l00Max), (18, fe_spec_l01Dec k), (20, fe_spec_l30Even k)] (lk [(105, 19, oc_spec_l30Done_g k)]) pins0 pinB0) (spec_PosetPicture_O k) (rdC (mkEnv ti [(14, fe_spec_l06Ok k), (15, fe_spec_l06Order k), (16, fe_spec_l06First k), (17, fe_spec_l00Max), (18, fe_spec_l01Dec k), (20, fe_spec_l30Even k)] (lk [(105, 19, oc_spec_l30Done_g k)]) pins0 pinB0) [.tmp 2, .tmp 3] (.pr (.sl 9 .str) (.int .i64))) ((loopsOf (codeOf Tryd.f5)).getD 2 .skip) (fun σ kx => spec_PosetPicture_l2_h.get σ fun x => spec_PosetPicture_l2_F k k x kx) := by
  refine ⟨spec_PosetPicture_l2_h, [(4, spec_PosetPicture_l2_x4)], fun n x kx => spec_PosetPicture_l2_F k n x kx, k, by kernel_rfl, by kernel_rfl, fun x kx => by kernel_rfl, ?_, fun σ kx => rfl⟩
  rintro n ⟨⟨⟨⟩, ⟨⟩, ⟨⟩, h12, ⟨⟩⟩, ⟨q_22, q_23, ⟨⟩⟩, ⟨v_1, ⟨⟩⟩⟩ kx
  kernel_rfl
theorem ok_spec_PosetPicture (k : Nat) : FnOK Tryd.prog 5 (fe_spec_PosetPicture k) := by
  refine closed_ok (tab := [(14, fe_spec_l06Ok k), (15, fe_spec_l06Order k), (16, fe_spec_l06First k), (17, fe_spec_l00Max), (18, fe_spec_l01Dec k), (20, fe_spec_l30Even k)]) (l := [(105, 19, oc_spec_l30Done_g k)]) ti_ok ti_ht mix (List.forall_mem_cons.2 ⟨ok_spec_l06Ok k, (List.forall_mem_cons.2 ⟨ok_spec_l06Order k, (List.forall_mem_cons.2 ⟨ok_spec_l06First k, (List.forall_mem_cons.2 ⟨ok_spec_l00Max, (List.forall_mem_cons.2 ⟨ok_spec_l01Dec k, (List.forall_mem_cons.2 ⟨ok_spec_l30Even k, (List.forall_mem_nil _)⟩)⟩)⟩)⟩)⟩)⟩) (List.forall_mem_cons.2 ⟨ok_spec_l30Done_g k, (List.forall_mem_nil _)⟩) ⟨⟨Tryd.f5, (codeOf Tryd.f5), [.tmp 2, .tmp 3], (spec_PosetPicture_O k), by kernel_rfl, by kernel_rfl, by kernel_rfl, by kernel_rfl, rfl, by decide, ⟨by kernel_rfl, ?_, ?_⟩, ?_⟩⟩
  · refine loops_of (n := 4) (by kernel_rfl) fun i hi => ?_
    match i, hi with
    | 0, _ => exact loop_of (by kernel_rfl) (spec_PosetPicture_l0_ok k)
    | 1, _ => exact loop_of (by kernel_rfl) (spec_PosetPicture_l1_ok k)
    | 2, _ => exact loop_of (by kernel_rfl) (spec_PosetPicture_l2_ok k)
    | 3, _ => exact loop_of (by kernel_rfl) (spec_PosetPicture_l3_ok k)
    | n + 4, hi => omega
  · exact no_cuts (by kernel_rfl)
  · rintro p0
    kernel_rfl
/- 56 loop.example/g01005/impl.within -/
def impl_within (n0 : Int) (low1 : Int) (high2 : Int) : Option Bool := (if (decide (low1 ≤ n0)) = true then some (decide (n0 ≤ high2)) else some false)
def fe_impl_within : FE := ⟨(.pr (.int .i64) (.pr (.int .i64) (.int .i64))), 1, .bool, fun x => impl_within x.1 x.2.1 x.2.2⟩
theorem ok_impl_within : FnOK Tryd.prog 56 (fe_impl_within) := by
  refine closed_ok (tab := []) (l := []) ti_ok ti_ht mix (List.forall_mem_nil _) (List.forall_mem_nil _) ⟨⟨Tryd.f56, (codeOf Tryd.f56), [.tmp 6], (LOn Bool), by kernel_rfl, by kernel_rfl, by kernel_rfl, by kernel_rfl, rfl, by decide, ⟨by kernel_rfl, ?_, ?_⟩, ?_⟩⟩
  · exact no_loops (by kernel_rfl)
  · exact no_cuts (by kernel_rfl)
  · rintro ⟨n0, low1, high2⟩
    kernel_rfl
/- 40 loop.example/g01005/impl.isSize -/
def impl_isSize (n0 : Int) : Option Bool := (impl_within n0 0 12).bind fun r_1 => some r_1
def fe_impl_isSize : FE := ⟨(.int .i64), 1, .bool, fun x => impl_isSize x⟩
theorem ok_impl_isSize : FnOK Tryd.prog 40 (fe_impl_isSize) := by
  refine closed_ok (tab := [(56, fe_impl_within)]) (l := []) ti_ok ti_ht mix (List.forall_mem_cons.2 ⟨ok_impl_within, (List.forall_mem_nil _)⟩) (List.forall_mem_nil _) ⟨⟨Tryd.f40, (codeOf Tryd.f40), [.tmp 2], (LOn Bool), by kernel_rfl, by kernel_rfl, by kernel_rfl, by kernel_rfl, rfl, by decide, ⟨by kernel_rfl, ?_, ?_⟩, ?_⟩⟩
  · exact no_loops (by kernel_rfl)
  · exact no_cuts (by kernel_rfl)
  · rintro n0
    kernel_rfl
/- 72 loop.example/g01005/impl.isElement -/
def impl_isElement (a0 : Int) (p1 : Int) : Option Bool := (impl_within a0 0 (w_i64 (p1 - 1))).bind fun r_1 => some r_1
def fe_impl_isElement : FE := ⟨(.pr (.int .i64) (.int .i64)), 1, .bool, fun x => impl_isElement x.1 x.2⟩
theorem ok_impl_isElement : FnOK Tryd.prog 72 (fe_impl_isElement) := by
  refine closed_ok (tab := [(56, fe_impl_within)]) (l := []) ti_ok ti_ht mix (List.forall_mem_cons.2 ⟨ok_impl_within, (List.forall_mem_nil _)⟩) (List.forall_mem_nil _) ⟨⟨Tryd.f72, (codeOf Tryd.f72), [.tmp 4], (LOn Bool), by kernel_rfl, by kernel_rfl, by kernel_rfl, by kernel_rfl, rfl, by decide, ⟨by kernel_rfl, ?_, ?_⟩, ?_⟩⟩
  · exact no_loops (by kernel_rfl)
  · exact no_cuts (by kernel_rfl)
  · rintro ⟨a0, p1⟩
    kernel_rfl
/- 71 loop.example/g01005/impl.areElements$1 -/
def impl_areElements_1 (a0 : Int) (x1 : Int) : Option Bool := (impl_isElement a0 x1).bind fun r_1 => some (!r_1)
def fe_impl_areElements_1 : FE := ⟨(.pr (.int .i64) (.ptr (.int .i64))), 1, .bool, fun x => impl_areElements_1 x.1 x.2⟩
theorem ok_impl_areElements_1 : FnOK Tryd.prog 71 (fe_impl_areElements_1) := by
  refine closed_ok (tab := [(72, fe_impl_isElement)]) (l := []) ti_ok ti_ht mix (List.forall_mem_cons.2 ⟨ok_impl_isElement, (List.forall_mem_nil _)⟩) (List.forall_mem_nil _) ⟨⟨Tryd.f71, (codeOf Tryd.f71), [.tmp 3], (LOn Bool), by kernel_rfl, by kernel_rfl, by kernel_rfl, by kernel_rfl, rfl, by decide, ⟨by kernel_rfl, ?_, ?_⟩, ?_⟩⟩
  · exact no_loops (by kernel_rfl)
  · exact no_cuts (by kernel_rfl)
  · rintro ⟨a0, x1⟩
    kernel_rfl
/- 82 slices.IndexFunc[[]int64,int64] -/
def slices_IndexFunc_int64__impl_areElements_1_l0 (k : Nat) : Nat → (List Int) → Int → Int → Int → (Option Int) → Option Int
  | 0, _, _, _, _, _ => none
  | n + 1, s0, f1, x7, x8, e_0 => (if (decide (x8 < x7)) = true then (if 0 ≤ x8 then (s0[x8.toNat]?).bind fun y_1 => (impl_areElements_1 y_1 f1).bind fun r_2 => (if r_2 = true then some x8 else slices_IndexFunc_int64__impl_areElements_1_l0 k n s0 f1 x7 (w_i64 (x8 + 1)) e_0) else none) else e_0)
def slices_IndexFunc_int64__impl_areElements_1 (k : Nat) (s0 : List Int) (f1 : Int) : Option Int := slices_IndexFunc_int64__impl_areElements_1_l0 k k s0 f1 (List.length s0 : Int) 0 (some (-1))
def slices_IndexFunc_int64__impl_areElements_1_l0_h : Head := ⟨[(0, (.val (.sl 2 (.int .i64)))), (1, (.val (.fn 71 (.ptr (.int .i64))))), (7, (.val (.int .i64))), (8, (.val (.int .i64)))], [], []⟩
def slices_IndexFunc_int64__impl_areElements_1_l0_x0 : Head := ⟨[], [], []⟩
def slices_IndexFunc_int64__impl_areElements_1_l0_F (k n : Nat) (x : slices_IndexFunc_int64__impl_areElements_1_l0_h.T) (kx : Nat → St → Option Int) : Option Int := slices_IndexFunc_int64__impl_areElements_1_l0 k n x.1.1 x.1.2.1 x.1.2.2.1 x.1.2.2.2.1 (kx 0 (slices_IndexFunc_int64__impl_areElements_1_l0_x0.fill ((), (), ())))
def slices_IndexFunc_int64__impl_areElements_1_O (k : Nat) : Oracles Int := ⟨fun n => bif Nat.beq n 2 then some (fun σ kx => slices_IndexFunc_int64__impl_areElements_1_l0_h.get σ fun x => slices_IndexFunc_int64__impl_areElements_1_l0_F k k x kx) else none, fun _ => none⟩
def fe_slices_IndexFunc_int64__impl_areElements_1 (k : Nat) : FE := ⟨(.pr (.sl 2 (.int .i64)) (.fn 71 (.ptr (.int .i64)))), 1, (.int .i64), fun x => slices_IndexFunc_int64__impl_areElements_1 k x.1 x.2⟩
theorem slices_IndexFunc_int64__impl_areElements_1_l0_ok (k : Nat) : LoopOK (mkEnv ti [(71, fe_impl_areElements_1)] (lk []) pins0 pinB0) (slices_IndexFunc_int64__impl_areElements_1_O k) (rdC (mkEnv ti [(71, fe_impl_areElements_1)] (lk []) pins0 pinB0) [.tmp 4] (.int .i64)) ((loopsOf (codeOf Tryd.f82)).getD 0 .skip) (fun σ kx => slices_IndexFunc_int64__impl_areElements_1_l0_h.get σ fun x => slices_IndexFunc_int64__impl_areElements_1_l0_F k k x kx) := by
  refine ⟨slices_IndexFunc_int64__impl_areElements_1_l0_h, [(0, slices_IndexFunc_int64__impl_areElements_1_l0_x0)], fun n x kx => slices_IndexFunc_int64__impl_areElements_1_l0_F k n x kx, k, by kernel_rfl, by kernel_rfl, fun x kx => by kernel_rfl, ?_, fun σ kx => rfl⟩
  rintro n ⟨⟨s0, f1, x7, x8, ⟨⟩⟩, ⟨⟩, ⟨⟩⟩ kx
  kernel_rfl
theorem ok_slices_IndexFunc_int64__impl_areElements_1 (k : Nat) : FnOK Tryd.prog 82 (fe_slices_IndexFunc_int64__impl_areElements_1 k) := by
  refine closed_ok (tab := [(71, fe_impl_areElements_1)]) (l := []) ti_ok ti_ht mix (List.forall_mem_cons.2 ⟨ok_impl_areElements_1, (List.forall_mem_nil _)⟩) (List.forall_mem_nil _) ⟨⟨Tryd.f82, (codeOf Tryd.f82), [.tmp 4], (slices_IndexFunc_int64__impl_areElements_1_O k), by kernel_rfl, by kernel_rfl, by kernel_rfl, by kernel_rfl, rfl, by decide, ⟨by kernel_rfl, ?_, ?_⟩, ?_⟩⟩
  · refine loops_of (n := 1) (by kernel_rfl) fun i hi => ?_
    match i, hi with
    | 0, _ => exact loop_of (by kernel_rfl) (slices_IndexFunc_int64__impl_areElements_1_l0_ok k)
    | n + 1, hi => omega
  · exact no_cuts (by kernel_rfl)
  · rintro ⟨s0, f1⟩
    kernel_rfl
/- 70 slices.ContainsFunc[[]int64,int64] -/
def slices_ContainsFunc_int64__impl_areElements_1 (k : Nat) (s0 : List Int) (f1 : Int) : Option Bool := (slices_IndexFunc_int64__impl_areElements_1 k s0 f1).bind fun r_1 => some (decide (0 ≤ r_1))
def fe_slices_ContainsFunc_int64__impl_areElements_1 (k : Nat) : FE := ⟨(.pr (.sl 2 (.int .i64)) (.fn 71 (.ptr (.int .i64)))), 1, .bool, fun x => slices_ContainsFunc_int64__impl_areElements_1 k x.1 x.2⟩
theorem ok_slices_ContainsFunc_int64__impl_areElements_1 (k : Nat) : FnOK Tryd.prog 70 (fe_slices_ContainsFunc_int64__impl_areElements_1 k) := by
  refine closed_ok (tab := [(82, fe_slices_IndexFunc_int64__impl_areElements_1 k)]) (l := []) ti_ok ti_ht mix (List.forall_mem_cons.2 ⟨ok_slices_IndexFunc_int64__impl_areElements_1 k, (List.forall_mem_nil _)⟩) (List.forall_mem_nil _) ⟨⟨Tryd.f70, (codeOf Tryd.f70), [.tmp 4], (LOn Bool), by kernel_rfl, by kernel_rfl, by kernel_rfl, by kernel_rfl, rfl, by decide, ⟨by kernel_rfl, ?_, ?_⟩, ?_⟩⟩
  · exact no_loops (by kernel_rfl)
  · exact no_cuts (by kernel_rfl)
  · rintro ⟨s0, f1⟩
    kernel_rfl
/- 59 loop.example/g01005/impl.areElements -/
def impl_areElements (k : Nat) (list0 : List Int) (p1 : Int) : Option Bool := (slices_ContainsFunc_int64__impl_areElements_1 k list0 p1).bind fun r_1 => some (!r_1)
def fe_impl_areElements (k : Nat) : FE := ⟨(.pr (.sl 2 (.int .i64)) (.int .i64)), 1, .bool, fun x => impl_areElements k x.1 x.2⟩
theorem ok_impl_areElements (k : Nat) : FnOK Tryd.prog 59 (fe_impl_areElements k) := by
  refine closed_ok (tab := [(70, fe_slices_ContainsFunc_int64__impl_areElements_1 k)]) (l := []) ti_ok ti_ht mix (List.forall_mem_cons.2 ⟨ok_slices_ContainsFunc_int64__impl_areElements_1 k, (List.forall_mem_nil _)⟩) (List.forall_mem_nil _) ⟨⟨Tryd.f59, (codeOf Tryd.f59), [.tmp 4], (LOn Bool), by kernel_rfl, by kernel_rfl, by kernel_rfl, by kernel_rfl, rfl, by decide, ⟨by kernel_rfl, ?_, ?_⟩, ?_⟩⟩
  · exact no_loops (by kernel_rfl)
  · exact no_cuts (by kernel_rfl)
  · rintro ⟨list0, p1⟩
    kernel_rfl
/- 58 loop.example/g01005/impl.arePairs$1 -/
def impl_arePairs_1 (k : Nat) (p0 : List Int) (x1 : Int) : Option Bool := (if (!(decide ((List.length p0 : Int) = 2))) = true then some true else (impl_areElements k p0 x1).bind fun r_1 => some (!r_1))
def fe_impl_arePairs_1 (k : Nat) : FE := ⟨(.pr (.sl 2 (.int .i64)) (.ptr (.int .i64))), 1, .bool, fun x => impl_arePairs_1 k x.1 x.2⟩
theorem ok_impl_arePairs_1 (k : Nat) : FnOK Tryd.prog 58 (fe_impl_arePairs_1 k) := by
  refine closed_ok (tab := [(59, fe_impl_areElements k)]) (l := []) ti_ok ti_ht mix (List.forall_mem_cons.2 ⟨ok_impl_areElements k, (List.forall_mem_nil _)⟩) (List.forall_mem_nil _) ⟨⟨Tryd.f58, (codeOf Tryd.f58), [.tmp 3], (LOn Bool), by kernel_rfl, by kernel_rfl, by kernel_rfl, by kernel_rfl, rfl, by decide, ⟨by kernel_rfl, ?_, ?_⟩, ?_⟩⟩
  · exact no_loops (by kernel_rfl)
  · exact no_cuts (by kernel_rfl)
  · rintro ⟨p0, x1⟩
    kernel_rfl
/- 69 slices.IndexFunc[[][]int64,[]int64] -/
def slices_IndexFunc_int64__impl_arePairs_1_l0 (k : Nat) : Nat → (List (List Int)) → Int → Int → Int → (Option Int) → Option Int
  | 0, _, _, _, _, _ => none
  | n + 1, s0, f1, x7, x8, e_0 => (if (decide (x8 < x7)) = true then (if 0 ≤ x8 then (s0[x8.toNat]?).bind fun y_1 => (impl_arePairs_1 k y_1 f1).bind fun r_2 => (if r_2 = true then some x8 else slices_IndexFunc_int64__impl_arePairs_1_l0 k n s0 f1 x7 (w_i64 (x8 + 1)) e_0) else none) else e_0)
def slices_IndexFunc_int64__impl_arePairs_1 (k : Nat) (s0 : List (List Int)) (f1 : Int) : Option Int := slices_IndexFunc_int64__impl_arePairs_1_l0 k k s0 f1 (List.length s0 : Int) 0 (some (-1))
def slices_IndexFunc_int64__impl_arePairs_1_l0_h : Head := ⟨[(0, (.val (.sl 41 (.sl 2 (.int .i64))))), (1, (.val (.fn 58 (.ptr (.int .i64))))), (7, (.val (.int .i64))), (8, (.val (.int .i64)))], [], []⟩
def slices_IndexFunc_int64__impl_arePairs_1_l0_x0 : Head := ⟨[], [], []⟩
def slices_IndexFunc_int64__impl_arePairs_1_l0_F (k n : Nat) (x : slices_IndexFunc_int64__impl_arePairs_1_l0_h.T) (kx : Nat → St → Option Int) : Option Int := slices_IndexFunc_int64__impl_arePairs_1_l0 k n x.1.1 x.1.2.1 x.1.2.2.1 x.1.2.2.2.1 (kx 0 (slices_IndexFunc_int64__impl_arePairs_1_l0_x0.fill ((), (), ())))
def slices_IndexFunc_int64__impl_arePairs_1_O (k : Nat) : Oracles Int := ⟨fun n => bif Nat.beq n 2 then some (fun σ kx => slices_IndexFunc_int64__impl_arePairs_1_l0_h.get σ fun x => slices_IndexFunc_int64__impl_arePairs_1_l0_F k k x kx) else none, fun _ => none⟩
def fe_slices_IndexFunc_int64__impl_arePairs_1 (k : Nat) : FE := ⟨(.pr (.sl 41 (.sl 2 (.int .i64))) (.fn 58 (.ptr (.int .i64)))), 1, (.int .i64), fun x => slices_IndexFunc_int64__impl_arePairs_1 k x.1 x.2⟩
theorem slices_IndexFunc_int64__impl_arePairs_1_l0_ok (k : Nat) : LoopOK (mkEnv ti [(58, fe_impl_arePairs_1 k)] (lk []) pins0 pinB0) (slices_IndexFunc_int64__impl_arePairs_1_O k) (rdC (mkEnv ti [(58, fe_impl_arePairs_1 k)] (lk []) pins0 pinB0) [.tmp 4] (.int .i64)) ((loopsOf (codeOf Tryd.f69)).getD 0 .skip) (fun σ kx => slices_IndexFunc_int64__impl_arePairs_1_l0_h.get σ fun x => slices_IndexFunc_int64__impl_arePairs_1_l0_F k k x kx) := by
  refine ⟨slices_IndexFunc_int64__impl_arePairs_1_l0_h, [(0, slices_IndexFunc_int64__impl_arePairs_1_l0_x0)], fun n x kx => slices_IndexFunc_int64__impl_arePairs_1_l0_F k n x kx, k, by kernel_rfl, by kernel_rfl, fun x kx => by kernel_rfl, ?_, fun σ kx => rfl⟩
  rintro n ⟨⟨s0, f1, x7, x8, ⟨⟩⟩, ⟨⟩, ⟨⟩⟩ kx
  kernel_rfl
theorem ok_slices_IndexFunc_int64__impl_arePairs_1 (k : Nat) : FnOK Tryd.prog 69 (fe_slices_IndexFunc_int64__impl_arePairs_1 k) := by
  refine closed_ok (tab := [(58, fe_impl_arePairs_1 k)]) (l := []) ti_ok ti_ht mix (List.forall_mem_cons.2 ⟨ok_impl_arePairs_1 k, (List.forall_mem_nil _)⟩) (List.forall_mem_nil _) ⟨⟨Tryd.f69, (codeOf Tryd.f69), [.tmp 4], (slices_IndexFunc_int64__impl_arePairs_1_O k), by kernel_rfl, by kernel_rfl, by kernel_rfl, by kernel_rfl, rfl, by decide, ⟨by kernel_rfl, ?_, ?_⟩, ?_⟩⟩
  · refine loops_of (n := 1) (by kernel_rfl) fun i hi => ?_
    match i, hi with
    | 0, _ => exact loop_of (by kernel_rfl) (slices_IndexFunc_int64__impl_arePairs_1_l0_ok k)
    | n + 1, hi => omega
  · exact no_cuts (by kernel_rfl)
  · rintro ⟨s0, f1⟩
    kernel_rfl
/- 57 slices.ContainsFunc[[][]int64,[]int64] -/
def slices_ContainsFunc_int64__impl_arePairs_1 (k : Nat) (s0 : List (List Int)) (f1 : Int) : Option Bool := (slices_IndexFunc_int64__impl_arePairs_1 k s0 f1).bind fun r_1 => some (decide (0 ≤ r_1))
def fe_slices_ContainsFunc_int64__impl_arePairs_1 (k : Nat) : FE := ⟨(.pr (.sl 41 (.sl 2 (.int .i64))) (.fn 58 (.ptr (.int .i64)))), 1, .bool, fun x => slices_ContainsFunc_int64__impl_arePairs_1 k x.1 x.2⟩
theorem ok_slices_ContainsFunc_int64__impl_arePairs_1 (k : Nat) : FnOK Tryd.prog 57 (fe_slices_ContainsFunc_int64__impl_arePairs_1 k) := by
  refine closed_ok (tab := [(69, fe_slices_IndexFunc_int64__impl_arePairs_1 k)]) (l := []) ti_ok ti_ht mix (List.forall_mem_cons.2 ⟨ok_slices_IndexFunc_int64__impl_arePairs_1 k, (List.forall_mem_nil _)⟩) (List.forall_mem_nil _) ⟨⟨Tryd.f57, (codeOf Tryd.f57), [.tmp 4], (LOn Bool), by kernel_rfl, by kernel_rfl, by kernel_rfl, by kernel_rfl, rfl, by decide, ⟨by kernel_rfl, ?_, ?_⟩, ?_⟩⟩
  · exact no_loops (by kernel_rfl)
  · exact no_cuts (by kernel_rfl)
  · rintro ⟨s0, f1⟩
    kernel_rfl
/- 41 loop.example/g01005/impl.arePairs -/
def impl_arePairs (k : Nat) (n0 : Int) (pairs1 : List (List Int)) : Option Bool := (slices_ContainsFunc_int64__impl_arePairs_1 k pairs1 n0).bind fun r_1 => some (!r_1)
def fe_impl_arePairs (k : Nat) : FE := ⟨(.pr (.int .i64) (.sl 41 (.sl 2 (.int .i64)))), 1, .bool, fun x => impl_arePairs k x.1 x.2⟩
theorem ok_impl_arePairs (k : Nat) : FnOK Tryd.prog 41 (fe_impl_arePairs k) := by
  refine closed_ok (tab := [(57, fe_slices_ContainsFunc_int64__impl_arePairs_1 k)]) (l := []) ti_ok ti_ht mix (List.forall_mem_cons.2 ⟨ok_slices_ContainsFunc_int64__impl_arePairs_1 k, (List.forall_mem_nil _)⟩) (List.forall_mem_nil _) ⟨⟨Tryd.f41, (codeOf Tryd.f41), [.tmp 4], (LOn Bool), by kernel_rfl, by kernel_rfl, by kernel_rfl, by kernel_rfl, rfl, by decide, ⟨by kernel_rfl, ?_, ?_⟩, ?_⟩⟩
  · exact no_loops (by kernel_rfl)
  · exact no_cuts (by kernel_rfl)
  · rintro ⟨n0, pairs1⟩
    kernel_rfl
end
end Go.Proofs.YtpliblemabkikaaDoor.Ev
