/- Functions of the program, as plain ones. No conditions. -/
import Derived.Test.YtfepelmocldcnaaDoorG0
import Derived.KernelRfl
set_option linter.unusedVariables false
set_option maxRecDepth 100000
namespace Go.Proofs.YtfepelmocldcnaaDoor.Ev
open Go.RowKit
noncomputable section
/- 17 loop.example/g01005/spec.l01Split -/
def spec_l01Split_l0 (k : Nat) : Nat → (List UInt8) → Int → Int → Int → (List (List UInt8)) → ((List UInt8) → Int → (List (List UInt8)) → Option (List (List UInt8))) → Option (List (List UInt8))
  | 0, _, _, _, _, _, _ => none
  | n + 1, s0, by1, from6, i7, q_1, e_0 => (if (decide (i7 < (List.length s0 : Int))) = true then (if 0 ≤ i7 then (s0[i7.toNat]?).bind fun b_2 => (if (decide ((z_u8 b_2) = by1)) = true then (if 0 ≤ from6 ∧ from6 ≤ i7 ∧ i7 ≤ s0.length then (if (q_1.length + [((s0.drop from6.toNat).take (i7.toNat - from6.toNat))].length) * 16 ≤ LIM then spec_l01Split_l0 k n s0 by1 (w_i64 (i7 + 1)) (w_i64 (i7 + 1)) (q_1 ++ [((s0.drop from6.toNat).take (i7.toNat - from6.toNat))]) e_0 else none) else none) else spec_l01Split_l0 k n s0 by1 from6 (w_i64 (i7 + 1)) q_1 e_0) else none) else e_0 s0 from6 q_1)
def spec_l01Split (k : Nat) (s0 : List UInt8) (by1 : Int) : Option (List (List UInt8)) := spec_l01Split_l0 k k s0 by1 0 0 [] (fun s_3 from_4 q_5 => (if 0 ≤ from_4 ∧ from_4 ≤ (s_3.length : Int) ∧ (s_3.length : Int) ≤ s_3.length then (if (q_5.length + [((s_3.drop from_4.toNat).take (s_3.length - from_4.toNat))].length) * 16 ≤ LIM then some (q_5 ++ [((s_3.drop from_4.toNat).take (s_3.length - from_4.toNat))]) else none) else none))
def spec_l01Split_l0_h : Head := ⟨[(0, (.val .str)), (1, (.val (.int .u8))), (5, (.ref 64000000 [])), (6, (.val (.int .i64))), (7, (.val (.int .i64)))], [(64000000, 9, .str, false)], []⟩
def spec_l01Split_l0_x0 : Head := ⟨[(0, (.val .str)), (5, (.ref 64000000 [])), (6, (.val (.int .i64)))], [(64000000, 9, .str, false)], []⟩
def spec_l01Split_l0_F (k n : Nat) (x : spec_l01Split_l0_h.T) (kx : Nat → St → Option (List (List UInt8))) : Option (List (List UInt8)) := spec_l01Split_l0 k n x.1.1 x.1.2.1 x.1.2.2.2.1 x.1.2.2.2.2.1 x.2.1.1 (fun (s0 : List UInt8) (from6 : Int) (q_3 : List (List UInt8)) => kx 0 (spec_l01Split_l0_x0.fill ((s0, (), from6, ()), (q_3, ()), ())))
def spec_l01Split_O (k : Nat) : Oracles (List (List UInt8)) := ⟨fun n => bif Nat.beq n 4 then some (fun σ kx => spec_l01Split_l0_h.get σ fun x => spec_l01Split_l0_F k k x kx) else none, fun _ => none⟩
def fe_spec_l01Split (k : Nat) : FE := ⟨(.pr .str (.int .u8)), 1, (.sl 9 .str), fun x => spec_l01Split k x.1 x.2⟩
theorem spec_l01Split_l0_ok (k : Nat) : LoopOK (mkEnv ti [] (lk []) pins0 pinB0) (spec_l01Split_O k) (rdC (mkEnv ti [] (lk []) pins0 pinB0) [.tmp 4] (.sl 9 .str)) ((loopsOf (codeOf Tryd.f17)).getD 0 .skip) (fun σ kx => spec_l01Split_l0_h.get σ fun x => spec_l01Split_l0_F k k x kx) := by
  refine ⟨spec_l01Split_l0_h, [(0, spec_l01Split_l0_x0)], fun n x kx => spec_l01Split_l0_F k n x kx, k, by kernel_rfl, by kernel_rfl, fun x kx => by kernel_rfl, ?_, fun σ kx => rfl⟩
  rintro n ⟨⟨s0, by1, ⟨⟩, from6, i7, ⟨⟩⟩, ⟨q_1, ⟨⟩⟩, ⟨⟩⟩ kx
  kernel_rfl
theorem ok_spec_l01Split (k : Nat) : FnOK Tryd.prog 17 (fe_spec_l01Split k) := by
  refine closed_ok (tab := []) (l := []) ti_ok ti_ht mix (List.forall_mem_nil _) (List.forall_mem_nil _) ⟨⟨Tryd.f17, (codeOf Tryd.f17), [.tmp 4], (spec_l01Split_O k), by kernel_rfl, by kernel_rfl, by kernel_rfl, by kernel_rfl, rfl, by decide, ⟨by kernel_rfl, ?_, ?_⟩, ?_⟩⟩
  · refine loops_of (n := 1) (by kernel_rfl) fun i hi => ?_
    match i, hi with
    | 0, _ => exact loop_of (by kernel_rfl) (spec_l01Split_l0_ok k)
    | n + 1, hi => omega
  · exact no_cuts (by kernel_rfl)
  · rintro ⟨s0, by1⟩
    kernel_rfl
/- 9 loop.example/g01005/spec.l29Lines -/
def spec_l29Lines (k : Nat) (s0 : List UInt8) : Option (List (List UInt8) × Bool) := (spec_l01Split k s0 10).bind fun r_1 => (if 0 ≤ (0 : Int) ∧ (0 : Int) ≤ (w_i64 ((List.length r_1 : Int) - 1)) ∧ (w_i64 ((List.length r_1 : Int) - 1)) ≤ r_1.length then (if 0 ≤ (w_i64 ((List.length r_1 : Int) - 1)) ∧ (w_i64 ((List.length r_1 : Int) - 1)).toNat < List.length r_1 then (r_1[(w_i64 ((List.length r_1 : Int) - 1)).toNat]?).bind fun y_2 => some ((r_1.take ((w_i64 ((List.length r_1 : Int) - 1)).toNat)), (decide (y_2 = []))) else none) else none)
def fe_spec_l29Lines (k : Nat) : FE := ⟨.str, 2, (.pr (.sl 9 .str) .bool), fun x => spec_l29Lines k x⟩
theorem ok_spec_l29Lines (k : Nat) : FnOK Tryd.prog 9 (fe_spec_l29Lines k) := by
  refine closed_ok (tab := [(17, fe_spec_l01Split k)]) (l := []) ti_ok ti_ht mix (List.forall_mem_cons.2 ⟨ok_spec_l01Split k, (List.forall_mem_nil _)⟩) (List.forall_mem_nil _) ⟨⟨Tryd.f9, (codeOf Tryd.f9), [.tmp 2, .tmp 3], (LOn (List (List UInt8) × Bool)), by kernel_rfl, by kernel_rfl, by kernel_rfl, by kernel_rfl, rfl, by decide, ⟨by kernel_rfl, ?_, ?_⟩, ?_⟩⟩
  · exact no_loops (by kernel_rfl)
  · exact no_cuts (by kernel_rfl)
  · rintro s0
    kernel_rfl
/- 19 loop.example/g01005/spec.l01Crc -/
def spec_l01Crc_l1 (k : Nat) : Nat → (List UInt8) → Int → Int → Int → ((List UInt8) → Int → Int → Option Int) → Option Int
  | 0, _, _, _, _, _ => none
  | n + 1, s0, sum1, i5, k6, e_2 => (if (decide (k6 < 8)) = true then (if (decide (65535 < (w_i64 (sum1 * 2 ^ 1)))) = true then spec_l01Crc_l1 k n s0 (b_Xor .i64 (b_And .i64 (w_i64 (sum1 * 2 ^ 1)) 65535) 4129) i5 (w_i64 (k6 + 1)) e_2 else spec_l01Crc_l1 k n s0 (w_i64 (sum1 * 2 ^ 1)) i5 (w_i64 (k6 + 1)) e_2) else e_2 s0 sum1 i5)
def spec_l01Crc_l0 (k : Nat) : Nat → (List UInt8) → Int → Int → (Int → Option Int) → Option Int
  | 0, _, _, _, _ => none
  | n + 1, s0, sum1, i5, e_0 => (if (decide (i5 < (List.length s0 : Int))) = true then (if 0 ≤ i5 then (s0[i5.toNat]?).bind fun b_1 => spec_l01Crc_l1 k k s0 (b_Xor .i64 sum1 (w_i64 ((w_i64 ((z_u8 b_1))) * 2 ^ 8))) i5 0 (fun s_2 sum_3 i_4 => spec_l01Crc_l0 k n s_2 sum_3 (w_i64 (i_4 + 1)) e_0) else none) else e_0 sum1)
def spec_l01Crc (k : Nat) (s0 : List UInt8) (sum1 : Int) : Option Int := spec_l01Crc_l0 k k s0 sum1 0 (fun sum_5 => some sum_5)
def spec_l01Crc_l1_h : Head := ⟨[(0, (.val .str)), (1, (.val (.int .i64))), (5, (.val (.int .i64))), (6, (.val (.int .i64)))], [], []⟩
def spec_l01Crc_l1_x2 : Head := ⟨[(0, (.val .str)), (1, (.val (.int .i64))), (5, (.val (.int .i64)))], [], []⟩
def spec_l01Crc_l1_F (k n : Nat) (x : spec_l01Crc_l1_h.T) (kx : Nat → St → Option Int) : Option Int := spec_l01Crc_l1 k n x.1.1 x.1.2.1 x.1.2.2.1 x.1.2.2.2.1 (fun (s0 : List UInt8) (sum1 : Int) (i5 : Int) => kx 2 (spec_l01Crc_l1_x2.fill ((s0, sum1, i5, ()), (), ())))
def spec_l01Crc_l0_h : Head := ⟨[(0, (.val .str)), (1, (.val (.int .i64))), (5, (.val (.int .i64)))], [], []⟩
def spec_l01Crc_l0_x0 : Head := ⟨[(1, (.val (.int .i64)))], [], []⟩
def spec_l01Crc_l0_F (k n : Nat) (x : spec_l01Crc_l0_h.T) (kx : Nat → St → Option Int) : Option Int := spec_l01Crc_l0 k n x.1.1 x.1.2.1 x.1.2.2.1 (fun (sum1 : Int) => kx 0 (spec_l01Crc_l0_x0.fill ((sum1, ()), (), ())))
def spec_l01Crc_O (k : Nat) : Oracles Int := ⟨fun n => bif Nat.beq n 6 then some (fun σ kx => spec_l01Crc_l1_h.get σ fun x => spec_l01Crc_l1_F k k x kx) else bif Nat.beq n 2 then some (fun σ kx => spec_l01Crc_l0_h.get σ fun x => spec_l01Crc_l0_F k k x kx) else none, fun _ => none⟩
def fe_spec_l01Crc (k : Nat) : FE := ⟨(.pr .str (.int .i64)), 1, (.int .i64), fun x => spec_l01Crc k x.1 x.2⟩
theorem spec_l01Crc_l1_ok (k : Nat) : LoopOK (mkEnv ti [] (lk []) pins0 pinB0) (spec_l01Crc_O k) (rdC (mkEnv ti [] (lk []) pins0 pinB0) [.tmp 4] (.int .i64)) ((loopsOf (codeOf Tryd.f19)).getD 1 .skip) (fun σ kx => spec_l01Crc_l1_h.get σ fun x => spec_l01Crc_l1_F k k x kx) := by
  refine ⟨spec_l01Crc_l1_h, [(2, spec_l01Crc_l1_x2)], fun n x kx => spec_l01Crc_l1_F k n x kx, k, by kernel_rfl, by kernel_rfl, fun x kx => by kernel_rfl, ?_, fun σ kx => rfl⟩
  rintro n ⟨⟨s0, sum1, i5, k6, ⟨⟩⟩, ⟨⟩, ⟨⟩⟩ kx
  kernel_rfl
theorem spec_l01Crc_l0_ok (k : Nat) : LoopOK (mkEnv ti [] (lk []) pins0 pinB0) (spec_l01Crc_O k) (rdC (mkEnv ti [] (lk []) pins0 pinB0) [.tmp 4] (.int .i64)) ((loopsOf (codeOf Tryd.f19)).getD 0 .skip) (fun σ kx => spec_l01Crc_l0_h.get σ fun x => spec_l01Crc_l0_F k k x kx) := by
  refine ⟨spec_l01Crc_l0_h, [(0, spec_l01Crc_l0_x0)], fun n x kx => spec_l01Crc_l0_F k n x kx, k, by kernel_rfl, by kernel_rfl, fun x kx => by kernel_rfl, ?_, fun σ kx => rfl⟩
  rintro n ⟨⟨s0, sum1, i5, ⟨⟩⟩, ⟨⟩, ⟨⟩⟩ kx
  kernel_rfl
theorem ok_spec_l01Crc (k : Nat) : FnOK Tryd.prog 19 (fe_spec_l01Crc k) := by
  refine closed_ok (tab := []) (l := []) ti_ok ti_ht mix (List.forall_mem_nil _) (List.forall_mem_nil _) ⟨⟨Tryd.f19, (codeOf Tryd.f19), [.tmp 4], (spec_l01Crc_O k), by kernel_rfl, by kernel_rfl, by kernel_rfl, by kernel_rfl, rfl, by decide, ⟨by kernel_rfl, ?_, ?_⟩, ?_⟩⟩
  · refine loops_of (n := 2) (by kernel_rfl) fun i hi => ?_
    match i, hi with
    | 0, _ => exact loop_of (by kernel_rfl) (spec_l01Crc_l0_ok k)
    | 1, _ => exact loop_of (by kernel_rfl) (spec_l01Crc_l1_ok k)
    | n + 2, hi => omega
  · exact no_cuts (by kernel_rfl)
  · rintro ⟨s0, sum1⟩
    kernel_rfl
/- 31 loop.example/g01005/spec.l01Dec -/
def spec_l01Dec_l0 (k : Nat) : Nat → Int → Int → (List Int) → (Int → (List Int) → Option (List UInt8)) → Option (List UInt8)
  | 0, _, _, _, _ => none
  | n + 1, n0, m4, q_1, e_0 => (if (!(decide (m4 = 0))) = true then (if (decide ((Int.tmod m4 10) < 0)) = true then (if (q_1.length + [(w_u8 ((w_i64 (48 + (w_i64 (0 - (Int.tmod m4 10)))))))].length) * 1 ≤ LIM then spec_l01Dec_l0 k n n0 (w_i64 (Int.tdiv m4 10)) (q_1 ++ [(w_u8 ((w_i64 (48 + (w_i64 (0 - (Int.tmod m4 10)))))))]) e_0 else none) else (if (q_1.length + [(w_u8 ((w_i64 (48 + (Int.tmod m4 10)))))].length) * 1 ≤ LIM then spec_l01Dec_l0 k n n0 (w_i64 (Int.tdiv m4 10)) (q_1 ++ [(w_u8 ((w_i64 (48 + (Int.tmod m4 10)))))]) e_0 else none)) else e_0 n0 q_1)
def spec_l01Dec_l1 (k : Nat) : Nat → Int → (List Int) → (List Int) → ((List Int) → Option (List UInt8)) → Option (List UInt8)
  | 0, _, _, _, _ => none
  | n + 1, i7, q_4, q_5, e_2 => (if (decide (0 ≤ i7)) = true then (if 0 ≤ i7 ∧ i7.toNat < List.length q_4 then (q_4[i7.toNat]?).bind fun y_6 => (if (q_5.length + [y_6].length) * 1 ≤ LIM then spec_l01Dec_l1 k n (w_i64 (i7 - 1)) q_4 (q_5 ++ [y_6]) e_2 else none) else none) else e_2 q_5)
def spec_l01Dec (k : Nat) (n0 : Int) : Option (List UInt8) := (if (decide (n0 = 0)) = true then some [48] else spec_l01Dec_l0 k k n0 n0 [] (fun n_2 q_3 => (if (decide (n_2 < 0)) = true then (if (q_3.length + [45].length) * 1 ≤ LIM then spec_l01Dec_l1 k k (w_i64 ((List.length (q_3 ++ [45]) : Int) - 1)) (q_3 ++ [45]) [] (fun q_7 => some (to_S q_7)) else none) else spec_l01Dec_l1 k k (w_i64 ((List.length q_3 : Int) - 1)) q_3 [] (fun q_8 => some (to_S q_8)))))
def spec_l01Dec_l0_h : Head := ⟨[(0, (.val (.int .i64))), (3, (.ref 64000000 [])), (4, (.val (.int .i64)))], [(64000000, 5, (.int .u8), false)], []⟩
def spec_l01Dec_l0_x0 : Head := ⟨[(0, (.val (.int .i64))), (3, (.ref 64000000 []))], [(64000000, 5, (.int .u8), false)], []⟩
def spec_l01Dec_l0_F (k n : Nat) (x : spec_l01Dec_l0_h.T) (kx : Nat → St → Option (List UInt8)) : Option (List UInt8) := spec_l01Dec_l0 k n x.1.1 x.1.2.2.1 x.2.1.1 (fun (n0 : Int) (q_2 : List Int) => kx 0 (spec_l01Dec_l0_x0.fill ((n0, (), ()), (q_2, ()), ())))
def spec_l01Dec_l1_h : Head := ⟨[(3, (.ref 64000000 [])), (6, (.ref 64000001 [])), (7, (.val (.int .i64)))], [(64000000, 5, (.int .u8), false), (64000001, 5, (.int .u8), false)], []⟩
def spec_l01Dec_l1_x2 : Head := ⟨[(6, (.ref 64000000 []))], [(64000000, 5, (.int .u8), false)], []⟩
def spec_l01Dec_l1_F (k n : Nat) (x : spec_l01Dec_l1_h.T) (kx : Nat → St → Option (List UInt8)) : Option (List UInt8) := spec_l01Dec_l1 k n x.1.2.2.1 x.2.1.1 x.2.1.2.1 (fun (q_7 : List Int) => kx 2 (spec_l01Dec_l1_x2.fill (((), ()), (q_7, ()), ())))
def spec_l01Dec_O (k : Nat) : Oracles (List UInt8) := ⟨fun n => bif Nat.beq n 5 then some (fun σ kx => spec_l01Dec_l0_h.get σ fun x => spec_l01Dec_l0_F k k x kx) else bif Nat.beq n 15 then some (fun σ kx => spec_l01Dec_l1_h.get σ fun x => spec_l01Dec_l1_F k k x kx) else none, fun _ => none⟩
def fe_spec_l01Dec (k : Nat) : FE := ⟨(.int .i64), 1, .str, fun x => spec_l01Dec k x⟩
theorem spec_l01Dec_l0_ok (k : Nat) : LoopOK (mkEnv ti [] (lk []) pins0 pinB0) (spec_l01Dec_O k) (rdC (mkEnv ti [] (lk []) pins0 pinB0) [.tmp 2] .str) ((loopsOf (codeOf Tryd.f31)).getD 0 .skip) (fun σ kx => spec_l01Dec_l0_h.get σ fun x => spec_l01Dec_l0_F k k x kx) := by
  refine ⟨spec_l01Dec_l0_h, [(0, spec_l01Dec_l0_x0)], fun n x kx => spec_l01Dec_l0_F k n x kx, k, by kernel_rfl, by kernel_rfl, fun x kx => by kernel_rfl, ?_, fun σ kx => rfl⟩
  rintro n ⟨⟨n0, ⟨⟩, m4, ⟨⟩⟩, ⟨q_1, ⟨⟩⟩, ⟨⟩⟩ kx
  kernel_rfl
theorem spec_l01Dec_l1_ok (k : Nat) : LoopOK (mkEnv ti [] (lk []) pins0 pinB0) (spec_l01Dec_O k) (rdC (mkEnv ti [] (lk []) pins0 pinB0) [.tmp 2] .str) ((loopsOf (codeOf Tryd.f31)).getD 1 .skip) (fun σ kx => spec_l01Dec_l1_h.get σ fun x => spec_l01Dec_l1_F k k x kx) := by
  refine ⟨spec_l01Dec_l1_h, [(2, spec_l01Dec_l1_x2)], fun n x kx => spec_l01Dec_l1_F k n x kx, k, by kernel_rfl, by kernel_rfl, fun x kx => by kernel_rfl, ?_, fun σ kx => rfl⟩
  rintro n ⟨⟨⟨⟩, ⟨⟩, i7, ⟨⟩⟩, ⟨q_4, q_5, ⟨⟩⟩, ⟨⟩⟩ kx
  kernel_rfl
theorem ok_spec_l01Dec (k : Nat) : FnOK Tryd.prog 31 (fe_spec_l01Dec k) := by
  refine closed_ok (tab := []) (l := []) ti_ok ti_ht mix (List.forall_mem_nil _) (List.forall_mem_nil _) ⟨⟨Tryd.f31, (codeOf Tryd.f31), [.tmp 2], (spec_l01Dec_O k), by kernel_rfl, by kernel_rfl, by kernel_rfl, by kernel_rfl, rfl, by decide, ⟨by kernel_rfl, ?_, ?_⟩, ?_⟩⟩
  · refine loops_of (n := 2) (by kernel_rfl) fun i hi => ?_
    match i, hi with
    | 0, _ => exact loop_of (by kernel_rfl) (spec_l01Dec_l0_ok k)
    | 1, _ => exact loop_of (by kernel_rfl) (spec_l01Dec_l1_ok k)
    | n + 2, hi => omega
  · exact no_cuts (by kernel_rfl)
  · rintro n0
    kernel_rfl
/- 18 loop.example/g01005/spec.l29Five -/
def spec_l29Five_l0 (k : Nat) : Nat → (List UInt8) → ((List UInt8) → Option (List UInt8)) → Option (List UInt8)
  | 0, _, _ => none
  | n + 1, s3, e_0 => (if (decide ((List.length s3 : Int) < 5)) = true then (if [48].length + s3.length ≤ 9223372036854775807 then spec_l29Five_l0 k n ([48] ++ s3) e_0 else none) else e_0 s3)
def spec_l29Five (k : Nat) (n0 : Int) : Option (List UInt8) := (spec_l01Dec k n0).bind fun r_1 => spec_l29Five_l0 k k r_1 (fun s_2 => some s_2)
def spec_l29Five_l0_h : Head := ⟨[(3, (.val .str))], [], []⟩
def spec_l29Five_l0_x0 : Head := ⟨[(3, (.val .str))], [], []⟩
def spec_l29Five_l0_F (k n : Nat) (x : spec_l29Five_l0_h.T) (kx : Nat → St → Option (List UInt8)) : Option (List UInt8) := spec_l29Five_l0 k n x.1.1 (fun (s3 : List UInt8) => kx 0 (spec_l29Five_l0_x0.fill ((s3, ()), (), ())))
def spec_l29Five_O (k : Nat) : Oracles (List UInt8) := ⟨fun n => bif Nat.beq n 2 then some (fun σ kx => spec_l29Five_l0_h.get σ fun x => spec_l29Five_l0_F k k x kx) else none, fun _ => none⟩
def fe_spec_l29Five (k : Nat) : FE := ⟨(.int .i64), 1, .str, fun x => spec_l29Five k x⟩
theorem spec_l29Five_l0_ok (k : Nat) : LoopOK (mkEnv ti [(31, fe_spec_l01Dec k)] (lk []) pins0 pinB0) (spec_l29Five_O k) (rdC (mkEnv ti [(31, fe_spec_l01Dec k)] (lk []) pins0 pinB0) [.tmp 2] .str) ((loopsOf (codeOf Tryd.f18)).getD 0 .skip) (fun σ kx => spec_l29Five_l0_h.get σ fun x => spec_l29Five_l0_F k k x kx) := by
  refine ⟨spec_l29Five_l0_h, [(0, spec_l29Five_l0_x0)], fun n x kx => spec_l29Five_l0_F k n x kx, k, by kernel_rfl, by kernel_rfl, fun x kx => by kernel_rfl, ?_, fun σ kx => rfl⟩
  rintro n ⟨⟨s3, ⟨⟩⟩, ⟨⟩, ⟨⟩⟩ kx
  kernel_rfl
theorem ok_spec_l29Five (k : Nat) : FnOK Tryd.prog 18 (fe_spec_l29Five k) := by
  refine closed_ok (tab := [(31, fe_spec_l01Dec k)]) (l := []) ti_ok ti_ht mix (List.forall_mem_cons.2 ⟨ok_spec_l01Dec k, (List.forall_mem_nil _)⟩) (List.forall_mem_nil _) ⟨⟨Tryd.f18, (codeOf Tryd.f18), [.tmp 2], (spec_l29Five_O k), by kernel_rfl, by kernel_rfl, by kernel_rfl, by kernel_rfl, rfl, by decide, ⟨by kernel_rfl, ?_, ?_⟩, ?_⟩⟩
  · refine loops_of (n := 1) (by kernel_rfl) fun i hi => ?_
    match i, hi with
    | 0, _ => exact loop_of (by kernel_rfl) (spec_l29Five_l0_ok k)
    | n + 1, hi => omega
  · exact no_cuts (by kernel_rfl)
  · rintro n0
    kernel_rfl
/- 49 loop.example/g01005/spec.l01Small -/
def spec_l01Small (c0 : Int) : Option Bool := (if (decide (97 ≤ c0)) = true then some (decide (c0 ≤ 122)) else some false)
def fe_spec_l01Small : FE := ⟨(.int .u8), 1, .bool, fun x => spec_l01Small x⟩
theorem ok_spec_l01Small : FnOK Tryd.prog 49 (fe_spec_l01Small) := by
  refine closed_ok (tab := []) (l := []) ti_ok ti_ht mix (List.forall_mem_nil _) (List.forall_mem_nil _) ⟨⟨Tryd.f49, (codeOf Tryd.f49), [.tmp 2], (LOn Bool), by kernel_rfl, by kernel_rfl, by kernel_rfl, by kernel_rfl, rfl, by decide, ⟨by kernel_rfl, ?_, ?_⟩, ?_⟩⟩
  · exact no_loops (by kernel_rfl)
  · exact no_cuts (by kernel_rfl)
  · rintro c0
    kernel_rfl
/- 50 loop.example/g01005/spec.l01Digit -/
def spec_l01Digit (c0 : Int) : Option Bool := (if (decide (48 ≤ c0)) = true then some (decide (c0 ≤ 57)) else some false)
def fe_spec_l01Digit : FE := ⟨(.int .u8), 1, .bool, fun x => spec_l01Digit x⟩
theorem ok_spec_l01Digit : FnOK Tryd.prog 50 (fe_spec_l01Digit) := by
  refine closed_ok (tab := []) (l := []) ti_ok ti_ht mix (List.forall_mem_nil _) (List.forall_mem_nil _) ⟨⟨Tryd.f50, (codeOf Tryd.f50), [.tmp 2], (LOn Bool), by kernel_rfl, by kernel_rfl, by kernel_rfl, by kernel_rfl, rfl, by decide, ⟨by kernel_rfl, ?_, ?_⟩, ?_⟩⟩
  · exact no_loops (by kernel_rfl)
  · exact no_cuts (by kernel_rfl)
  · rintro c0
    kernel_rfl
/- 32 loop.example/g01005/spec.l01Name -/
def spec_l01Name_l0 (k : Nat) : Nat → (List UInt8) → Int → (Option Bool) → Option Bool
  | 0, _, _, _ => none
  | n + 1, s0, i3, e_0 => (if (decide (i3 < (List.length s0 : Int))) = true then (if 0 ≤ i3 then (s0[i3.toNat]?).bind fun b_3 => (spec_l01Small (z_u8 b_3)).bind fun r_4 => (if (!r_4) = true then (if 0 ≤ i3 then (s0[i3.toNat]?).bind fun b_5 => (spec_l01Digit (z_u8 b_5)).bind fun r_6 => (if (!r_6) = true then some false else spec_l01Name_l0 k n s0 (w_i64 (i3 + 1)) e_0) else none) else spec_l01Name_l0 k n s0 (w_i64 (i3 + 1)) e_0) else none) else e_0)
def spec_l01Name (k : Nat) (s0 : List UInt8) : Option Bool := (if (decide (s0 = [])) = true then some false else (if (decide (10 < (List.length s0 : Int))) = true then some false else (s0[0]?).bind fun b_1 => (spec_l01Small (z_u8 b_1)).bind fun r_2 => (if (!r_2) = true then some false else spec_l01Name_l0 k k s0 0 (some true))))
def spec_l01Name_l0_h : Head := ⟨[(0, (.val .str)), (3, (.val (.int .i64)))], [], []⟩
def spec_l01Name_l0_x0 : Head := ⟨[], [], []⟩
def spec_l01Name_l0_F (k n : Nat) (x : spec_l01Name_l0_h.T) (kx : Nat → St → Option Bool) : Option Bool := spec_l01Name_l0 k n x.1.1 x.1.2.1 (kx 0 (spec_l01Name_l0_x0.fill ((), (), ())))
def spec_l01Name_O (k : Nat) : Oracles Bool := ⟨fun n => bif Nat.beq n 4 then some (fun σ kx => spec_l01Name_l0_h.get σ fun x => spec_l01Name_l0_F k k x kx) else none, fun _ => none⟩
def fe_spec_l01Name (k : Nat) : FE := ⟨.str, 1, .bool, fun x => spec_l01Name k x⟩
theorem spec_l01Name_l0_ok (k : Nat) : LoopOK (mkEnv ti [(49, fe_spec_l01Small), (50, fe_spec_l01Digit)] (lk []) pins0 pinB0) (spec_l01Name_O k) (rdC (mkEnv ti [(49, fe_spec_l01Small), (50, fe_spec_l01Digit)] (lk []) pins0 pinB0) [.tmp 2] .bool) ((loopsOf (codeOf Tryd.f32)).getD 0 .skip) (fun σ kx => spec_l01Name_l0_h.get σ fun x => spec_l01Name_l0_F k k x kx) := by
  refine ⟨spec_l01Name_l0_h, [(0, spec_l01Name_l0_x0)], fun n x kx => spec_l01Name_l0_F k n x kx, k, by kernel_rfl, by kernel_rfl, fun x kx => by kernel_rfl, ?_, fun σ kx => rfl⟩
  rintro n ⟨⟨s0, i3, ⟨⟩⟩, ⟨⟩, ⟨⟩⟩ kx
  kernel_rfl
theorem ok_spec_l01Name (k : Nat) : FnOK Tryd.prog 32 (fe_spec_l01Name k) := by
  refine closed_ok (tab := [(49, fe_spec_l01Small), (50, fe_spec_l01Digit)]) (l := []) ti_ok ti_ht mix (List.forall_mem_cons.2 ⟨ok_spec_l01Small, (List.forall_mem_cons.2 ⟨ok_spec_l01Digit, (List.forall_mem_nil _)⟩)⟩) (List.forall_mem_nil _) ⟨⟨Tryd.f32, (codeOf Tryd.f32), [.tmp 2], (spec_l01Name_O k), by kernel_rfl, by kernel_rfl, by kernel_rfl, by kernel_rfl, rfl, by decide, ⟨by kernel_rfl, ?_, ?_⟩, ?_⟩⟩
  · refine loops_of (n := 1) (by kernel_rfl) fun i hi => ?_
    match i, hi with
    | 0, _ => exact loop_of (by kernel_rfl) (spec_l01Name_l0_ok k)
    | n + 1, hi => omega
  · exact no_cuts (by kernel_rfl)
  · rintro s0
    kernel_rfl
/- 20 loop.example/g01005/spec.l29One -/
def spec_l29One_l0 (k : Nat) : Nat → (List UInt8 × List UInt8 × List UInt8) → Int → ((List UInt8 × List UInt8 × List UInt8) → Option Bool) → Option Bool
  | 0, _, _, _ => none
  | n + 1, b0, i3, e_0 => (if (decide (i3 < (List.length b0.2.2 : Int))) = true then (if 0 ≤ i3 then (b0.2.2[i3.toNat]?).bind fun b_1 => (if (decide ((z_u8 b_1) = 10)) = true then some false else spec_l29One_l0 k n b0 (w_i64 (i3 + 1)) e_0) else none) else e_0 b0)
def spec_l29One (k : Nat) (b0 : List UInt8 × List UInt8 × List UInt8) : Option Bool := spec_l29One_l0 k k b0 0 (fun b_2 => (spec_l01Name k b_2.1).bind fun r_3 => (if r_3 = true then (spec_l01Name k b_2.2.1).bind fun r_4 => (if r_4 = true then some (decide ((List.length b_2.2.2 : Int) ≤ 400)) else some false) else some false))
def spec_l29One_l0_h : Head := ⟨[(0, (.val (.ptr (.st (.pr .str (.pr .str .str)))))), (3, (.val (.int .i64)))], [], []⟩
def spec_l29One_l0_x0 : Head := ⟨[(0, (.val (.ptr (.st (.pr .str (.pr .str .str))))))], [], []⟩
def spec_l29One_l0_F (k n : Nat) (x : spec_l29One_l0_h.T) (kx : Nat → St → Option Bool) : Option Bool := spec_l29One_l0 k n x.1.1 x.1.2.1 (fun (b0 : List UInt8 × List UInt8 × List UInt8) => kx 0 (spec_l29One_l0_x0.fill ((b0, ()), (), ())))
def spec_l29One_O (k : Nat) : Oracles Bool := ⟨fun n => bif Nat.beq n 2 then some (fun σ kx => spec_l29One_l0_h.get σ fun x => spec_l29One_l0_F k k x kx) else none, fun _ => none⟩
def fe_spec_l29One (k : Nat) : FE := ⟨(.ptr (.st (.pr .str (.pr .str .str)))), 1, .bool, fun x => spec_l29One k x⟩
theorem spec_l29One_l0_ok (k : Nat) : LoopOK (mkEnv ti [(32, fe_spec_l01Name k)] (lk []) pins0 pinB0) (spec_l29One_O k) (rdC (mkEnv ti [(32, fe_spec_l01Name k)] (lk []) pins0 pinB0) [.tmp 2] .bool) ((loopsOf (codeOf Tryd.f20)).getD 0 .skip) (fun σ kx => spec_l29One_l0_h.get σ fun x => spec_l29One_l0_F k k x kx) := by
  refine ⟨spec_l29One_l0_h, [(0, spec_l29One_l0_x0)], fun n x kx => spec_l29One_l0_F k n x kx, k, by kernel_rfl, by kernel_rfl, fun x kx => by kernel_rfl, ?_, fun σ kx => rfl⟩
  rintro n ⟨⟨b0, i3, ⟨⟩⟩, ⟨⟩, ⟨⟩⟩ kx
  kernel_rfl
theorem ok_spec_l29One (k : Nat) : FnOK Tryd.prog 20 (fe_spec_l29One k) := by
  refine closed_ok (tab := [(32, fe_spec_l01Name k)]) (l := []) ti_ok ti_ht mix (List.forall_mem_cons.2 ⟨ok_spec_l01Name k, (List.forall_mem_nil _)⟩) (List.forall_mem_nil _) ⟨⟨Tryd.f20, (codeOf Tryd.f20), [.tmp 2], (spec_l29One_O k), by kernel_rfl, by kernel_rfl, by kernel_rfl, by kernel_rfl, rfl, by decide, ⟨by kernel_rfl, ?_, ?_⟩, ?_⟩⟩
  · refine loops_of (n := 1) (by kernel_rfl) fun i hi => ?_
    match i, hi with
    | 0, _ => exact loop_of (by kernel_rfl) (spec_l29One_l0_ok k)
    | n + 1, hi => omega
  · exact no_cuts (by kernel_rfl)
  · rintro b0
    kernel_rfl
/- 10 loop.example/g01005/spec.l29Parse -/
def spec_l29Parse_l0 (k : Nat) : Nat → (List UInt8) → Int → (List UInt8 × List UInt8 × List UInt8) → ((List UInt8) → Int → (List UInt8 × List UInt8 × List UInt8) → Option ((List UInt8 × List UInt8 × List UInt8) × Int)) → Option ((List UInt8 × List UInt8 × List UInt8) × Int)
  | 0, _, _, _, _ => none
  | n + 1, rest4, i5, v_2, e_0 => (if (decide (i5 < (List.length rest4 : Int))) = true then (if 0 ≤ i5 then (rest4[i5.toNat]?).bind fun b_4 => (if (!(decide ((z_u8 b_4) = 32))) = true then spec_l29Parse_l0 k n rest4 (w_i64 (i5 + 1)) v_2 e_0 else e_0 rest4 i5 v_2) else none) else e_0 rest4 i5 v_2)
def spec_l29Parse_l1 (k : Nat) : Nat → (List UInt8) → Int → Int → (List UInt8 × List UInt8 × List UInt8) → ((List UInt8) → Int → Int → (List UInt8 × List UInt8 × List UInt8) → Option ((List UInt8 × List UInt8 × List UInt8) × Int)) → Option ((List UInt8 × List UInt8 × List UInt8) × Int)
  | 0, _, _, _, _, _ => none
  | n + 1, rest4, i5, k6, v_2, e_2 => (if (decide (k6 < (List.length rest4 : Int))) = true then (if 0 ≤ k6 then (rest4[k6.toNat]?).bind fun b_8 => (if (!(decide ((z_u8 b_8) = 32))) = true then spec_l29Parse_l1 k n rest4 i5 (w_i64 (k6 + 1)) v_2 e_2 else e_2 rest4 i5 k6 v_2) else none) else e_2 rest4 i5 k6 v_2)
def spec_l29Parse (k : Nat) (line0 : List UInt8) : Option ((List UInt8 × List UInt8 × List UInt8) × Int) := (if (decide ((List.length line0 : Int) < 6)) = true then some (([], ([], [])), 9) else (line0[5]?).bind fun b_1 => (if (!(decide ((z_u8 b_1) = 32))) = true then some (([], ([], [])), 9) else (if 0 ≤ (6 : Int) ∧ (6 : Int) ≤ (line0.length : Int) ∧ (line0.length : Int) ≤ line0.length then (if 0 ≤ (0 : Int) ∧ (0 : Int) ≤ 5 ∧ (5 : Int) ≤ line0.length then (spec_l01Crc k ((line0.drop 6).take (line0.length - 6)) 65535).bind fun r_2 => (spec_l29Five k r_2).bind fun r_3 => (if (!(decide ((line0.take 5) = r_3))) = true then some (([], ([], [])), 10) else spec_l29Parse_l0 k k ((line0.drop 6).take (line0.length - 6)) 0 ([], ([], [])) (fun rest_5 i_6 v_7 => spec_l29Parse_l1 k k rest_5 i_6 (w_i64 (i_6 + 1)) v_7 (fun rest_9 i_10 k_11 v_12 => (if (decide ((List.length rest_9 : Int) ≤ k_11)) = true then some (([], ([], [])), 9) else (if 0 ≤ (0 : Int) ∧ (0 : Int) ≤ i_10 ∧ i_10 ≤ rest_9.length then (if 0 ≤ (w_i64 (i_10 + 1)) ∧ (w_i64 (i_10 + 1)) ≤ k_11 ∧ k_11 ≤ rest_9.length then (if 0 ≤ (w_i64 (k_11 + 1)) ∧ (w_i64 (k_11 + 1)) ≤ (rest_9.length : Int) ∧ (rest_9.length : Int) ≤ rest_9.length then (spec_l29One k ((rest_9.take i_10.toNat), (((rest_9.drop ((w_i64 (i_10 + 1)).toNat)).take (k_11.toNat - (w_i64 (i_10 + 1)).toNat)), ((rest_9.drop ((w_i64 (k_11 + 1)).toNat)).take (rest_9.length - (w_i64 (k_11 + 1)).toNat))))).bind fun r_13 => (if (!r_13) = true then some (([], ([], [])), 9) else some (((rest_9.take i_10.toNat), (((rest_9.drop ((w_i64 (i_10 + 1)).toNat)).take (k_11.toNat - (w_i64 (i_10 + 1)).toNat)), ((rest_9.drop ((w_i64 (k_11 + 1)).toNat)).take (rest_9.length - (w_i64 (k_11 + 1)).toNat)))), 0)) else none) else none) else none))))) else none) else none)))
def spec_l29Parse_l0_h : Head := ⟨[(2, (.bp 2 [] 0)), (4, (.val .str)), (5, (.val (.int .i64)))], [], [(2, 31, (.val (.st (.pr .str (.pr .str .str)))))]⟩
def spec_l29Parse_l0_x0 : Head := ⟨[(2, (.bp 2 [] 0)), (4, (.val .str)), (5, (.val (.int .i64)))], [], [(2, 31, (.val (.st (.pr .str (.pr .str .str)))))]⟩
def spec_l29Parse_l0_F (k n : Nat) (x : spec_l29Parse_l0_h.T) (kx : Nat → St → Option ((List UInt8 × List UInt8 × List UInt8) × Int)) : Option ((List UInt8 × List UInt8 × List UInt8) × Int) := spec_l29Parse_l0 k n x.1.2.1 x.1.2.2.1 x.2.2.1 (fun (rest4 : List UInt8) (i5 : Int) (v_2 : List UInt8 × List UInt8 × List UInt8) => kx 0 (spec_l29Parse_l0_x0.fill (((), rest4, i5, ()), (), (v_2, ()))))
def spec_l29Parse_l1_h : Head := ⟨[(2, (.bp 2 [] 0)), (4, (.val .str)), (5, (.val (.int .i64))), (6, (.val (.int .i64)))], [], [(2, 31, (.val (.st (.pr .str (.pr .str .str)))))]⟩
def spec_l29Parse_l1_x2 : Head := ⟨[(2, (.bp 2 [] 0)), (4, (.val .str)), (5, (.val (.int .i64))), (6, (.val (.int .i64)))], [], [(2, 31, (.val (.st (.pr .str (.pr .str .str)))))]⟩
def spec_l29Parse_l1_F (k n : Nat) (x : spec_l29Parse_l1_h.T) (kx : Nat → St → Option ((List UInt8 × List UInt8 × List UInt8) × Int)) : Option ((List UInt8 × List UInt8 × List UInt8) × Int) := spec_l29Parse_l1 k n x.1.2.1 x.1.2.2.1 x.1.2.2.2.1 x.2.2.1 (fun (rest4 : List UInt8) (i5 : Int) (k6 : Int) (v_2 : List UInt8 × List UInt8 × List UInt8) => kx 2 (spec_l29Parse_l1_x2.fill (((), rest4, i5, k6, ()), (), (v_2, ()))))
def spec_l29Parse_O (k : Nat) : Oracles ((List UInt8 × List UInt8 × List UInt8) × Int) := ⟨fun n => bif Nat.beq n 7 then some (fun σ kx => spec_l29Parse_l0_h.get σ fun x => spec_l29Parse_l0_F k k x kx) else bif Nat.beq n 10 then some (fun σ kx => spec_l29Parse_l1_h.get σ fun x => spec_l29Parse_l1_F k k x kx) else none, fun _ => none⟩
def fe_spec_l29Parse (k : Nat) : FE := ⟨.str, 2, (.pr (.st (.pr .str (.pr .str .str))) (.int .i64)), fun x => spec_l29Parse k x⟩
theorem spec_l29Parse_l0_ok (k : Nat) : LoopOK (mkEnv ti [(19, fe_spec_l01Crc k), (18, fe_spec_l29Five k), (20, fe_spec_l29One k)] (lk []) pins0 pinB0) (spec_l29Parse_O k) (rdC (mkEnv ti [(19, fe_spec_l01Crc k), (18, fe_spec_l29Five k), (20, fe_spec_l29One k)] (lk []) pins0 pinB0) [.cell 2 31, .tmp 3] (.pr (.st (.pr .str (.pr .str .str))) (.int .i64))) ((loopsOf (codeOf Tryd.f10)).getD 0 .skip) (fun σ kx => spec_l29Parse_l0_h.get σ fun x => spec_l29Parse_l0_F k k x kx) := by
  refine ⟨spec_l29Parse_l0_h, [(0, spec_l29Parse_l0_x0)], fun n x kx => spec_l29Parse_l0_F k n x kx, k, by kernel_rfl, by kernel_rfl, fun x kx => by kernel_rfl, ?_, fun σ kx => rfl⟩
  rintro n ⟨⟨⟨⟩, rest4, i5, ⟨⟩⟩, ⟨⟩, ⟨v_2, ⟨⟩⟩⟩ kx
  kernel_rfl
theorem spec_l29Parse_l1_ok (k : Nat) : LoopOK (mkEnv ti [(19, fe_spec_l01Crc k), (18, fe_spec_l29Five k), (20, fe_spec_l29One k)] (lk []) pins0 pinB0) (spec_l29Parse_O k) (rdC (mkEnv ti [(19, fe_spec_l01Crc k), (18, fe_spec_l29Five k), (20, fe_spec_l29One k)] (lk []) pins0 pinB0) [.cell 2 31, .tmp 3] (.pr (.st (.pr .str (.pr .str .str))) (.int .i64))) ((loopsOf (codeOf Tryd.f10)).getD 1 .skip) (fun σ kx => spec_l29Parse_l1_h.get σ fun x => spec_l29Parse_l1_F k k x kx) := by
  refine ⟨spec_l29Parse_l1_h, [(2, spec_l29Parse_l1_x2)], fun n x kx => spec_l29Parse_l1_F k n x kx, k, by kernel_rfl, by kernel_rfl, fun x kx => by kernel_rfl, ?_, fun σ kx => rfl⟩
  rintro n ⟨⟨⟨⟩, rest4, i5, k6, ⟨⟩⟩, ⟨⟩, ⟨v_2, ⟨⟩⟩⟩ kx
  kernel_rfl
theorem ok_spec_l29Parse (k : Nat) : FnOK Tryd.prog 10 (fe_spec_l29Parse k) := by
  refine closed_ok (tab := [(19, fe_spec_l01Crc k), (18, fe_spec_l29Five k), (20, fe_spec_l29One k)]) (l := []) ti_ok ti_ht mix (List.forall_mem_cons.2 ⟨ok_spec_l01Crc k, (List.forall_mem_cons.2 ⟨ok_spec_l29Five k, (List.forall_mem_cons.2 ⟨ok_spec_l29One k, (List.forall_mem_nil _)⟩)⟩)⟩) (List.forall_mem_nil _) ⟨⟨Tryd.f10, (codeOf Tryd.f10), [.cell 2 31, .tmp 3], (spec_l29Parse_O k), by kernel_rfl, by kernel_rfl, by kernel_rfl, by kernel_rfl, rfl, by decide, ⟨by kernel_rfl, ?_, ?_⟩, ?_⟩⟩
  · refine loops_of (n := 2) (by kernel_rfl) fun i hi => ?_
    match i, hi with
    | 0, _ => exact loop_of (by kernel_rfl) (spec_l29Parse_l0_ok k)
    | 1, _ => exact loop_of (by kernel_rfl) (spec_l29Parse_l1_ok k)
    | n + 2, hi => omega
  · exact no_cuts (by kernel_rfl)
  · rintro line0
    kernel_rfl
/- 21 loop.example/g01005/spec.l29Before -/
def spec_l29Before (a0 : List UInt8 × List UInt8 × List UInt8) (b1 : List UInt8 × List UInt8 × List UInt8) : Option Bool := (if (Op.bytesLess a0.1 b1.1) = true then some true else (if (decide (a0.1 = b1.1)) = true then some (Op.bytesLess a0.2.1 b1.2.1) else some false))
def fe_spec_l29Before : FE := ⟨(.pr (.ptr (.st (.pr .str (.pr .str .str)))) (.ptr (.st (.pr .str (.pr .str .str))))), 1, .bool, fun x => spec_l29Before x.1 x.2⟩
theorem ok_spec_l29Before : FnOK Tryd.prog 21 (fe_spec_l29Before) := by
  refine closed_ok (tab := []) (l := []) ti_ok ti_ht mix (List.forall_mem_nil _) (List.forall_mem_nil _) ⟨⟨Tryd.f21, (codeOf Tryd.f21), [.tmp 4], (LOn Bool), by kernel_rfl, by kernel_rfl, by kernel_rfl, by kernel_rfl, rfl, by decide, ⟨by kernel_rfl, ?_, ?_⟩, ?_⟩⟩
  · exact no_loops (by kernel_rfl)
  · exact no_cuts (by kernel_rfl)
  · rintro ⟨a0, b1⟩
    kernel_rfl
/- 11 loop.example/g01005/spec.l29Put -/
def spec_l29Put_l0 (k : Nat) : Nat → (List (List UInt8 × List UInt8 × List UInt8)) → Bool → Int → (List (List UInt8 × List UInt8 × List UInt8)) → (List UInt8 × List UInt8 × List UInt8) → (Bool → (List (List UInt8 × List UInt8 × List UInt8)) → (List UInt8 × List UInt8 × List UInt8) → Option (List (List UInt8 × List UInt8 × List UInt8))) → Option (List (List UInt8 × List UInt8 × List UInt8))
  | 0, _, _, _, _, _, _ => none
  | n + 1, list0, done6, i7, q_1, v_3, e_0 => (if (decide (i7 < (List.length list0 : Int))) = true then (if (!done6) = true then (if 0 ≤ i7 then (list0[i7.toNat]?).bind fun y_2 => (spec_l29Before y_2 v_3).bind fun r_3 => (if (!r_3) = true then (if (q_1.length + [v_3].length) * 48 ≤ LIM then (if 0 ≤ i7 then (list0[i7.toNat]?).bind fun y_4 => (if (!(decide (y_4.1 = v_3.1))) = true then (if 0 ≤ i7 then (list0[i7.toNat]?).bind fun y_5 => (if ((q_1 ++ [v_3]).length + [y_5].length) * 48 ≤ LIM then spec_l29Put_l0 k n list0 true (w_i64 (i7 + 1)) ((q_1 ++ [v_3]) ++ [y_5]) v_3 e_0 else none) else none) else (if 0 ≤ i7 then (list0[i7.toNat]?).bind fun y_6 => (if (!(decide (y_6.2.1 = v_3.2.1))) = true then (if 0 ≤ i7 then (list0[i7.toNat]?).bind fun y_7 => (if ((q_1 ++ [v_3]).length + [y_7].length) * 48 ≤ LIM then spec_l29Put_l0 k n list0 true (w_i64 (i7 + 1)) ((q_1 ++ [v_3]) ++ [y_7]) v_3 e_0 else none) else none) else spec_l29Put_l0 k n list0 true (w_i64 (i7 + 1)) (q_1 ++ [v_3]) v_3 e_0) else none)) else none) else none) else (if 0 ≤ i7 then (list0[i7.toNat]?).bind fun y_8 => (if (!(decide (y_8.1 = v_3.1))) = true then (if 0 ≤ i7 then (list0[i7.toNat]?).bind fun y_9 => (if (q_1.length + [y_9].length) * 48 ≤ LIM then spec_l29Put_l0 k n list0 done6 (w_i64 (i7 + 1)) (q_1 ++ [y_9]) v_3 e_0 else none) else none) else (if 0 ≤ i7 then (list0[i7.toNat]?).bind fun y_10 => (if (!(decide (y_10.2.1 = v_3.2.1))) = true then (if 0 ≤ i7 then (list0[i7.toNat]?).bind fun y_11 => (if (q_1.length + [y_11].length) * 48 ≤ LIM then spec_l29Put_l0 k n list0 done6 (w_i64 (i7 + 1)) (q_1 ++ [y_11]) v_3 e_0 else none) else none) else spec_l29Put_l0 k n list0 done6 (w_i64 (i7 + 1)) q_1 v_3 e_0) else none)) else none)) else none) else (if 0 ≤ i7 then (list0[i7.toNat]?).bind fun y_12 => (if (!(decide (y_12.1 = v_3.1))) = true then (if 0 ≤ i7 then (list0[i7.toNat]?).bind fun y_13 => (if (q_1.length + [y_13].length) * 48 ≤ LIM then spec_l29Put_l0 k n list0 done6 (w_i64 (i7 + 1)) (q_1 ++ [y_13]) v_3 e_0 else none) else none) else (if 0 ≤ i7 then (list0[i7.toNat]?).bind fun y_14 => (if (!(decide (y_14.2.1 = v_3.2.1))) = true then (if 0 ≤ i7 then (list0[i7.toNat]?).bind fun y_15 => (if (q_1.length + [y_15].length) * 48 ≤ LIM then spec_l29Put_l0 k n list0 done6 (w_i64 (i7 + 1)) (q_1 ++ [y_15]) v_3 e_0 else none) else none) else spec_l29Put_l0 k n list0 done6 (w_i64 (i7 + 1)) q_1 v_3 e_0) else none)) else none)) else e_0 done6 q_1 v_3)
def spec_l29Put (k : Nat) (list0 : List (List UInt8 × List UInt8 × List UInt8)) (b1 : List UInt8 × List UInt8 × List UInt8) : Option (List (List UInt8 × List UInt8 × List UInt8)) := spec_l29Put_l0 k k list0 false 0 [] b1 (fun done_16 q_17 v_18 => (if (!done_16) = true then (if (q_17.length + [v_18].length) * 48 ≤ LIM then some (q_17 ++ [v_18]) else none) else some q_17))
def spec_l29Put_l0_h : Head := ⟨[(0, (.val (.sl 31 (.st (.pr .str (.pr .str .str)))))), (3, (.bp 3 [] 0)), (5, (.ref 64000000 [])), (6, (.val .bool)), (7, (.val (.int .i64)))], [(64000000, 31, (.st (.pr .str (.pr .str .str))), false)], [(3, 31, (.val (.st (.pr .str (.pr .str .str)))))]⟩
def spec_l29Put_l0_x0 : Head := ⟨[(3, (.bp 3 [] 0)), (5, (.ref 64000000 [])), (6, (.val .bool))], [(64000000, 31, (.st (.pr .str (.pr .str .str))), false)], [(3, 31, (.val (.st (.pr .str (.pr .str .str)))))]⟩
def spec_l29Put_l0_F (k n : Nat) (x : spec_l29Put_l0_h.T) (kx : Nat → St → Option (List (List UInt8 × List UInt8 × List UInt8))) : Option (List (List UInt8 × List UInt8 × List UInt8)) := spec_l29Put_l0 k n x.1.1 x.1.2.2.2.1 x.1.2.2.2.2.1 x.2.1.1 x.2.2.1 (fun (done6 : Bool) (q_16 : List (List UInt8 × List UInt8 × List UInt8)) (v_3 : List UInt8 × List UInt8 × List UInt8) => kx 0 (spec_l29Put_l0_x0.fill (((), (), done6, ()), (q_16, ()), (v_3, ()))))
def spec_l29Put_O (k : Nat) : Oracles (List (List UInt8 × List UInt8 × List UInt8)) := ⟨fun n => bif Nat.beq n 4 then some (fun σ kx => spec_l29Put_l0_h.get σ fun x => spec_l29Put_l0_F k k x kx) else none, fun _ => none⟩
def fe_spec_l29Put (k : Nat) : FE := ⟨(.pr (.sl 31 (.st (.pr .str (.pr .str .str)))) (.st (.pr .str (.pr .str .str)))), 1, (.sl 31 (.st (.pr .str (.pr .str .str)))), fun x => spec_l29Put k x.1 x.2⟩
theorem spec_l29Put_l0_ok (k : Nat) : LoopOK (mkEnv ti [(21, fe_spec_l29Before)] (lk []) pins0 pinB0) (spec_l29Put_O k) (rdC (mkEnv ti [(21, fe_spec_l29Before)] (lk []) pins0 pinB0) [.tmp 4] (.sl 31 (.st (.pr .str (.pr .str .str))))) ((loopsOf (codeOf Tryd.f11)).getD 0 .skip) (fun σ kx => spec_l29Put_l0_h.get σ fun x => spec_l29Put_l0_F k k x kx) := by
  refine ⟨spec_l29Put_l0_h, [(0, spec_l29Put_l0_x0)], fun n x kx => spec_l29Put_l0_F k n x kx, k, by kernel_rfl, by kernel_rfl, fun x kx => by kernel_rfl, ?_, fun σ kx => rfl⟩
  rintro n ⟨⟨list0, ⟨⟩, ⟨⟩, done6, i7, ⟨⟩⟩, ⟨q_1, ⟨⟩⟩, ⟨v_3, ⟨⟩⟩⟩ kx
  kernel_rfl
theorem ok_spec_l29Put (k : Nat) : FnOK Tryd.prog 11 (fe_spec_l29Put k) := by
  refine closed_ok (tab := [(21, fe_spec_l29Before)]) (l := []) ti_ok ti_ht mix (List.forall_mem_cons.2 ⟨ok_spec_l29Before, (List.forall_mem_nil _)⟩) (List.forall_mem_nil _) ⟨⟨Tryd.f11, (codeOf Tryd.f11), [.tmp 4], (spec_l29Put_O k), by kernel_rfl, by kernel_rfl, by kernel_rfl, by kernel_rfl, rfl, by decide, ⟨by kernel_rfl, ?_, ?_⟩, ?_⟩⟩
  · refine loops_of (n := 1) (by kernel_rfl) fun i hi => ?_
    match i, hi with
    | 0, _ => exact loop_of (by kernel_rfl) (spec_l29Put_l0_ok k)
    | n + 1, hi => omega
  · exact no_cuts (by kernel_rfl)
  · rintro ⟨list0, b1⟩
    kernel_rfl
end
end Go.Proofs.YtfepelmocldcnaaDoor.Ev
