/- Functions of the program, as plain ones. No conditions. -/
import Derived.Test.YtackggcodaolaaaDoorG3
import Derived.KernelRfl
set_option linter.unusedVariables false
set_option maxRecDepth 100000
namespace Go.Proofs.YtackggcodaolaaaDoor.Ev
open Go.RowKit
noncomputable section
/- 16 loop.example/g01005/spec.MatrixPicture -/
def spec_MatrixPicture_l2 (k : Nat) : Nat → Int → Int → (List UInt8) → Int → (List (List UInt8)) → (Int × Int × Int × List Int) → (Int → Int → (List UInt8) → (List (List UInt8)) → (Int × Int × Int × List Int) → Option (List (List UInt8) × Int)) → Option (List (List UInt8) × Int)
  | 0, _, _, _, _, _, _, _ => none
  | n + 1, wide4, r7, line8, c9, q_9, v_1, e_4 => (if (decide (c9 < v_1.2.2.1)) = true then (if (decide (0 < c9)) = true then (if line8.length + [32].length ≤ 9223372036854775807 then (if 0 ≤ (w_i64 ((w_i64 (r7 * v_1.2.2.1)) + c9)) then (v_1.2.2.2[(w_i64 ((w_i64 (r7 * v_1.2.2.1)) + c9)).toNat]?).bind fun y_10 => (spec_l01Dec k y_10).bind fun r_11 => (spec_l30Times k [32] (w_i64 (wide4 - (List.length r_11 : Int)))).bind fun r_12 => (if r_12.length + r_11.length ≤ 9223372036854775807 then (if (line8 ++ [32]).length + (r_12 ++ r_11).length ≤ 9223372036854775807 then spec_MatrixPicture_l2 k n wide4 r7 ((line8 ++ [32]) ++ (r_12 ++ r_11)) (w_i64 (c9 + 1)) q_9 v_1 e_4 else none) else none) else none) else none) else (if 0 ≤ (w_i64 ((w_i64 (r7 * v_1.2.2.1)) + c9)) then (v_1.2.2.2[(w_i64 ((w_i64 (r7 * v_1.2.2.1)) + c9)).toNat]?).bind fun y_13 => (spec_l01Dec k y_13).bind fun r_14 => (spec_l30Times k [32] (w_i64 (wide4 - (List.length r_14 : Int)))).bind fun r_15 => (if r_15.length + r_14.length ≤ 9223372036854775807 then (if line8.length + (r_15 ++ r_14).length ≤ 9223372036854775807 then spec_MatrixPicture_l2 k n wide4 r7 (line8 ++ (r_15 ++ r_14)) (w_i64 (c9 + 1)) q_9 v_1 e_4 else none) else none) else none)) else e_4 wide4 r7 line8 q_9 v_1)
def spec_MatrixPicture_l0 (k : Nat) : Nat → Int → Int → (Int × Int × Int × List Int) → (Int → (Int × Int × Int × List Int) → Option (List (List UInt8) × Int)) → Option (List (List UInt8) × Int)
  | 0, _, _, _, _ => none
  | n + 1, wide4, i5, v_1, e_0 => (if (decide (i5 < (List.length v_1.2.2.2 : Int))) = true then (if 0 ≤ i5 then (v_1.2.2.2[i5.toNat]?).bind fun y_2 => (spec_l01Dec k y_2).bind fun r_3 => (if (decide (wide4 < (List.length r_3 : Int))) = true then (if 0 ≤ i5 then (v_1.2.2.2[i5.toNat]?).bind fun y_4 => (spec_l01Dec k y_4).bind fun r_5 => spec_MatrixPicture_l0 k n (List.length r_5 : Int) (w_i64 (i5 + 1)) v_1 e_0 else none) else spec_MatrixPicture_l0 k n wide4 (w_i64 (i5 + 1)) v_1 e_0) else none) else e_0 wide4 v_1)
def spec_MatrixPicture_l1 (k : Nat) : Nat → Int → Int → (List (List UInt8)) → (Int × Int × Int × List Int) → ((List (List UInt8)) → Option (List (List UInt8) × Int)) → Option (List (List UInt8) × Int)
  | 0, _, _, _, _, _ => none
  | n + 1, wide4, r7, q_8, v_1, e_2 => (if (decide (r7 < v_1.2.1)) = true then spec_MatrixPicture_l2 k k wide4 r7 [] 0 q_8 v_1 (fun wide_9 r_10 line_11 q_12 v_13 => (if (q_12.length + [line_11].length) * 16 ≤ LIM then spec_MatrixPicture_l1 k n wide_9 (w_i64 (r_10 + 1)) (q_12 ++ [line_11]) v_13 e_2 else none)) else e_2 q_8)
def spec_MatrixPicture (k : Nat) (m0 : Int × Int × Int × List Int) : Option (List (List UInt8) × Int) := (spec_l03Ok k m0).bind fun r_1 => (if (!r_1) = true then some ([], 1) else spec_MatrixPicture_l0 k k 0 0 m0 (fun wide_6 v_7 => spec_MatrixPicture_l1 k k wide_6 0 [] v_7 (fun q_14 => (spec_l30Done_g k q_14).bind fun y_15 => some (y_15.2.1.1, y_15.1.1.2.1))))
def spec_MatrixPicture_l2_h : Head := ⟨[(1, (.bp 1 [] 0)), (4, (.val (.int .i64))), (6, (.ref 64000000 [])), (7, (.val (.int .i64))), (8, (.val .str)), (9, (.val (.int .i64)))], [(64000000, 9, .str, false)], [(1, 43, (.val (.st (.pr (.int .i64) (.pr (.int .i64) (.pr (.int .i64) (.sl 2 (.int .i64))))))))]⟩
def spec_MatrixPicture_l2_x4 : Head := ⟨[(1, (.bp 1 [] 0)), (4, (.val (.int .i64))), (6, (.ref 64000000 [])), (7, (.val (.int .i64))), (8, (.val .str))], [(64000000, 9, .str, false)], [(1, 43, (.val (.st (.pr (.int .i64) (.pr (.int .i64) (.pr (.int .i64) (.sl 2 (.int .i64))))))))]⟩
def spec_MatrixPicture_l2_F (k n : Nat) (x : spec_MatrixPicture_l2_h.T) (kx : Nat → St → Option (List (List UInt8) × Int)) : Option (List (List UInt8) × Int) := spec_MatrixPicture_l2 k n x.1.2.1 x.1.2.2.2.1 x.1.2.2.2.2.1 x.1.2.2.2.2.2.1 x.2.1.1 x.2.2.1 (fun (wide4 : Int) (r7 : Int) (line8 : List UInt8) (q_16 : List (List UInt8)) (v_1 : Int × Int × Int × List Int) => kx 4 (spec_MatrixPicture_l2_x4.fill (((), wide4, (), r7, line8, ()), (q_16, ()), (v_1, ()))))
def spec_MatrixPicture_l0_h : Head := ⟨[(1, (.bp 1 [] 0)), (4, (.val (.int .i64))), (5, (.val (.int .i64)))], [], [(1, 43, (.val (.st (.pr (.int .i64) (.pr (.int .i64) (.pr (.int .i64) (.sl 2 (.int .i64))))))))]⟩
def spec_MatrixPicture_l0_x0 : Head := ⟨[(1, (.bp 1 [] 0)), (4, (.val (.int .i64)))], [], [(1, 43, (.val (.st (.pr (.int .i64) (.pr (.int .i64) (.pr (.int .i64) (.sl 2 (.int .i64))))))))]⟩
def spec_MatrixPicture_l0_F (k n : Nat) (x : spec_MatrixPicture_l0_h.T) (kx : Nat → St → Option (List (List UInt8) × Int)) : Option (List (List UInt8) × Int) := spec_MatrixPicture_l0 k n x.1.2.1 x.1.2.2.1 x.2.2.1 (fun (wide4 : Int) (v_1 : Int × Int × Int × List Int) => kx 0 (spec_MatrixPicture_l0_x0.fill (((), wide4, ()), (), (v_1, ()))))
def spec_MatrixPicture_l1_h : Head := ⟨[(1, (.bp 1 [] 0)), (4, (.val (.int .i64))), (6, (.ref 64000000 [])), (7, (.val (.int .i64)))], [(64000000, 9, .str, false)], [(1, 43, (.val (.st (.pr (.int .i64) (.pr (.int .i64) (.pr (.int .i64) (.sl 2 (.int .i64))))))))]⟩
def spec_MatrixPicture_l1_x2 : Head := ⟨[(6, (.ref 64000000 []))], [(64000000, 9, .str, false)], []⟩
def spec_MatrixPicture_l1_F (k n : Nat) (x : spec_MatrixPicture_l1_h.T) (kx : Nat → St → Option (List (List UInt8) × Int)) : Option (List (List UInt8) × Int) := spec_MatrixPicture_l1 k n x.1.2.1 x.1.2.2.2.1 x.2.1.1 x.2.2.1 (fun (q_21 : List (List UInt8)) => kx 2 (spec_MatrixPicture_l1_x2.fill (((), ()), (q_21, ()), ())))
def spec_MatrixPicture_O (k : Nat) : Oracles (List (List UInt8) × Int) := ⟨fun n => bif Nat.beq n 15 then some (fun σ kx => spec_MatrixPicture_l2_h.get σ fun x => spec_MatrixPicture_l2_F k k x kx) else bif Nat.beq n 5 then some (fun σ kx => spec_MatrixPicture_l0_h.get σ fun x => spec_MatrixPicture_l0_F k k x kx) else bif Nat.beq n 11 then some (fun σ kx => spec_MatrixPicture_l1_h.get σ fun x => spec_MatrixPicture_l1_F k k x kx) else none, fun _ => none⟩
def fe_spec_MatrixPicture (k : Nat) : FE := ⟨(.st (.pr (.int .i64) (.pr (.int .i64) (.pr (.int .i64) (.sl 2 (.int .i64)))))), 2, (.pr (.sl 9 .str) (.int .i64)), fun x => spec_MatrixPicture k x⟩
theorem spec_MatrixPicture_l2_ok (k : Nat) : LoopOK (mkEnv ti [(40, fe_spec_l03Ok k), (29, fe_spec_l01Dec k), (41, fe_spec_l30Times k)] (lk [(78, 30, oc_spec_l30Done_g k)]) pins0 pinB0) (spec_MatrixPicture_O k) (rdC (mkEnv ti [(40, fe_spec_l03Ok k), (29, fe_spec_l01Dec k), (41, fe_spec_l30Times k)] (lk [(78, 30, oc_spec_l30Done_g k)]) pins0 pinB0) [.tmp 2, .tmp 3] (.pr (.sl 9 .str) (.int .i64))) ((loopsOf (codeOf Tryd.f16)).getD 2 .skip) (fun σ kx => spec_MatrixPicture_l2_h.get σ fun x => spec_MatrixPicture_l2_F k k x kx) := by
  refine ⟨spec_MatrixPicture_l2_h, [(4, spec_MatrixPicture_l2_x4)], fun n x kx => spec_MatrixPicture_l2_F k n x kx, k, by kernel_rfl, by kernel_rfl, fun x kx => by kernel_rfl, ?_, fun σ kx => rfl⟩
  rintro n ⟨⟨⟨⟩, wide4, ⟨⟩, r7, line8, c9, ⟨⟩⟩, ⟨q_9, ⟨⟩⟩, ⟨v_1, ⟨⟩⟩⟩ kx
  kernel_rfl
theorem spec_MatrixPicture_l0_ok (k : Nat) : LoopOK (mkEnv ti [(40, fe_spec_l03Ok k), (29, fe_spec_l01Dec k), (41, fe_spec_l30Times k)] (lk [(78, 30, oc_spec_l30Done_g k)]) pins0 pinB0) (spec_MatrixPicture_O k) (rdC (mkEnv ti [(40, fe_spec_l03Ok k), (29, fe_spec_l01Dec k), (41, fe_spec_l30Times k)] (lk [(78, 30, oc_spec_l30Done_g k)]) pins0 pinB0) [.tmp 2, .tmp 3] (.pr (.sl 9 .str) (.int .i64))) ((loopsOf (codeOf Tryd.f16)).getD 0 .skip) (fun σ kx => spec_MatrixPicture_l0_h.get σ fun x => spec_MatrixPicture_l0_F k k x kx) := by
  refine ⟨spec_MatrixPicture_l0_h, [(0, spec_MatrixPicture_l0_x0)], fun n x kx => spec_MatrixPicture_l0_F k n x kx, k, by kernel_rfl, by kernel_rfl, fun x kx => by kernel_rfl, ?_, fun σ kx => rfl⟩
  rintro n ⟨⟨⟨⟩, wide4, i5, ⟨⟩⟩, ⟨⟩, ⟨v_1, ⟨⟩⟩⟩ kx
  kernel_rfl
theorem spec_MatrixPicture_l1_ok (k : Nat) : LoopOK (mkEnv ti [(40, fe_spec_l03Ok k), (29, fe_spec_l01Dec k), (41, fe_spec_l30Times k)] (lk [(78, 30, oc_spec_l30Done_g k)]) pins0 pinB0) (spec_MatrixPicture_O k) (rdC (mkEnv ti [(40, fe_spec_l03Ok k), (29, fe_spec_l01Dec k), (41, fe_spec_l30Times k)] (lk [(78, 30, oc_spec_l30Done_g k)]) pins0 pinB0) [.tmp 2, .tmp 3] (.pr (.sl 9 .str) (.int .i64))) ((loopsOf (codeOf Tryd.f16)).getD 1 .skip) (fun σ kx => spec_MatrixPicture_l1_h.get σ fun x => spec_MatrixPicture_l1_F k k x kx) := by
  refine ⟨spec_MatrixPicture_l1_h, [(2, spec_MatrixPicture_l1_x2)], fun n x kx => spec_MatrixPicture_l1_F k n x kx, k, by kernel_rfl, by kernel_rfl, fun x kx => by kernel_rfl, ?_, fun σ kx => rfl⟩
  rintro n ⟨⟨⟨⟩, wide4, ⟨⟩, r7, ⟨⟩⟩, ⟨q_8, ⟨⟩⟩, ⟨v_1, ⟨⟩⟩⟩ kx
  kernel_rfl
theorem ok_spec_MatrixPicture (k : Nat) : FnOK Tryd.prog 16 (fe_spec_MatrixPicture k) := by
  refine closed_ok (tab := [(40, fe_spec_l03Ok k), (29, fe_spec_l01Dec k), (41, fe_spec_l30Times k)]) (l := [(78, 30, oc_spec_l30Done_g k)]) ti_ok ti_ht mix (List.forall_mem_cons.2 ⟨ok_spec_l03Ok k, (List.forall_mem_cons.2 ⟨ok_spec_l01Dec k, (List.forall_mem_cons.2 ⟨ok_spec_l30Times k, (List.forall_mem_nil _)⟩)⟩)⟩) (List.forall_mem_cons.2 ⟨ok_spec_l30Done_g k, (List.forall_mem_nil _)⟩) ⟨⟨Tryd.f16, (codeOf Tryd.f16), [.tmp 2, .tmp 3], (spec_MatrixPicture_O k), by kernel_rfl, by kernel_rfl, by kernel_rfl, by kernel_rfl, rfl, by decide, ⟨by kernel_rfl, ?_, ?_⟩, ?_⟩⟩
  · refine loops_of (n := 3) (by kernel_rfl) fun i hi => ?_
    match i, hi with
    | 0, _ => exact loop_of (by kernel_rfl) (spec_MatrixPicture_l0_ok k)
    | 1, _ => exact loop_of (by kernel_rfl) (spec_MatrixPicture_l1_ok k)
    | 2, _ => exact loop_of (by kernel_rfl) (spec_MatrixPicture_l2_ok k)
    | n + 3, hi => omega
  · exact no_cuts (by kernel_rfl)
  · rintro m0
    kernel_rfl
/- 68 loop.example/g01005/impl.ValidPrime -/
def impl_ValidPrime_l0 (k : Nat) : Nat → Int → Int → (Option Bool) → Option Bool
  | 0, _, _, _ => none
  | n + 1, p0, d3, e_0 => (if (decide ((w_i64 (d3 * d3)) ≤ p0)) = true then (if d3 = 0 then none else (if (decide ((Int.tmod p0 d3) = 0)) = true then some false else impl_ValidPrime_l0 k n p0 (w_i64 (d3 + 1)) e_0)) else e_0)
def impl_ValidPrime (k : Nat) (p0 : Int) : Option Bool := (impl_within p0 2 251).bind fun r_1 => (if (!r_1) = true then some false else impl_ValidPrime_l0 k k p0 2 (some true))
def impl_ValidPrime_l0_h : Head := ⟨[(0, (.val (.int .i64))), (3, (.val (.int .i64)))], [], []⟩
def impl_ValidPrime_l0_x0 : Head := ⟨[], [], []⟩
def impl_ValidPrime_l0_F (k n : Nat) (x : impl_ValidPrime_l0_h.T) (kx : Nat → St → Option Bool) : Option Bool := impl_ValidPrime_l0 k n x.1.1 x.1.2.1 (kx 0 (impl_ValidPrime_l0_x0.fill ((), (), ())))
def impl_ValidPrime_O (k : Nat) : Oracles Bool := ⟨fun n => bif Nat.beq n 4 then some (fun σ kx => impl_ValidPrime_l0_h.get σ fun x => impl_ValidPrime_l0_F k k x kx) else none, fun _ => none⟩
def fe_impl_ValidPrime (k : Nat) : FE := ⟨(.int .i64), 1, .bool, fun x => impl_ValidPrime k x⟩
theorem impl_ValidPrime_l0_ok (k : Nat) : LoopOK (mkEnv ti [(62, fe_impl_within)] (lk []) pins0 pinB0) (impl_ValidPrime_O k) (rdC (mkEnv ti [(62, fe_impl_within)] (lk []) pins0 pinB0) [.tmp 2] .bool) ((loopsOf (codeOf Tryd.f68)).getD 0 .skip) (fun σ kx => impl_ValidPrime_l0_h.get σ fun x => impl_ValidPrime_l0_F k k x kx) := by
  refine ⟨impl_ValidPrime_l0_h, [(0, impl_ValidPrime_l0_x0)], fun n x kx => impl_ValidPrime_l0_F k n x kx, k, by kernel_rfl, by kernel_rfl, fun x kx => by kernel_rfl, ?_, fun σ kx => rfl⟩
  rintro n ⟨⟨p0, d3, ⟨⟩⟩, ⟨⟩, ⟨⟩⟩ kx
  kernel_rfl
theorem ok_impl_ValidPrime (k : Nat) : FnOK Tryd.prog 68 (fe_impl_ValidPrime k) := by
  refine closed_ok (tab := [(62, fe_impl_within)]) (l := []) ti_ok ti_ht mix (List.forall_mem_cons.2 ⟨ok_impl_within, (List.forall_mem_nil _)⟩) (List.forall_mem_nil _) ⟨⟨Tryd.f68, (codeOf Tryd.f68), [.tmp 2], (impl_ValidPrime_O k), by kernel_rfl, by kernel_rfl, by kernel_rfl, by kernel_rfl, rfl, by decide, ⟨by kernel_rfl, ?_, ?_⟩, ?_⟩⟩
  · refine loops_of (n := 1) (by kernel_rfl) fun i hi => ?_
    match i, hi with
    | 0, _ => exact loop_of (by kernel_rfl) (impl_ValidPrime_l0_ok k)
    | n + 1, hi => omega
  · exact no_cuts (by kernel_rfl)
  · rintro p0
    kernel_rfl
/- 69 loop.example/g01005/impl.isSide -/
def impl_isSide (n0 : Int) : Option Bool := (impl_within n0 0 32).bind fun r_1 => some r_1
def fe_impl_isSide : FE := ⟨(.int .i64), 1, .bool, fun x => impl_isSide x⟩
theorem ok_impl_isSide : FnOK Tryd.prog 69 (fe_impl_isSide) := by
  refine closed_ok (tab := [(62, fe_impl_within)]) (l := []) ti_ok ti_ht mix (List.forall_mem_cons.2 ⟨ok_impl_within, (List.forall_mem_nil _)⟩) (List.forall_mem_nil _) ⟨⟨Tryd.f69, (codeOf Tryd.f69), [.tmp 2], (LOn Bool), by kernel_rfl, by kernel_rfl, by kernel_rfl, by kernel_rfl, rfl, by decide, ⟨by kernel_rfl, ?_, ?_⟩, ?_⟩⟩
  · exact no_loops (by kernel_rfl)
  · exact no_cuts (by kernel_rfl)
  · rintro n0
    kernel_rfl
/- 70 loop.example/g01005/impl.size[int64] -/
def impl_size_int64 (list0 : List Int) : Option Int := some (List.length list0 : Int)
def fe_impl_size_int64 : FE := ⟨(.sl 2 (.int .i64)), 1, (.int .i64), fun x => impl_size_int64 x⟩
theorem ok_impl_size_int64 : FnOK Tryd.prog 70 (fe_impl_size_int64) := by
  refine closed_ok (tab := []) (l := []) ti_ok ti_ht mix (List.forall_mem_nil _) (List.forall_mem_nil _) ⟨⟨Tryd.f70, (codeOf Tryd.f70), [.tmp 2], (LOn Int), by kernel_rfl, by kernel_rfl, by kernel_rfl, by kernel_rfl, rfl, by decide, ⟨by kernel_rfl, ?_, ?_⟩, ?_⟩⟩
  · exact no_loops (by kernel_rfl)
  · exact no_cuts (by kernel_rfl)
  · rintro list0
    kernel_rfl
/- 91 loop.example/g01005/impl.isElement -/
def impl_isElement (a0 : Int) (p1 : Int) : Option Bool := (impl_within a0 0 (w_i64 (p1 - 1))).bind fun r_1 => some r_1
def fe_impl_isElement : FE := ⟨(.pr (.int .i64) (.int .i64)), 1, .bool, fun x => impl_isElement x.1 x.2⟩
theorem ok_impl_isElement : FnOK Tryd.prog 91 (fe_impl_isElement) := by
  refine closed_ok (tab := [(62, fe_impl_within)]) (l := []) ti_ok ti_ht mix (List.forall_mem_cons.2 ⟨ok_impl_within, (List.forall_mem_nil _)⟩) (List.forall_mem_nil _) ⟨⟨Tryd.f91, (codeOf Tryd.f91), [.tmp 4], (LOn Bool), by kernel_rfl, by kernel_rfl, by kernel_rfl, by kernel_rfl, rfl, by decide, ⟨by kernel_rfl, ?_, ?_⟩, ?_⟩⟩
  · exact no_loops (by kernel_rfl)
  · exact no_cuts (by kernel_rfl)
  · rintro ⟨a0, p1⟩
    kernel_rfl
/- 90 loop.example/g01005/impl.areElements$1 -/
def impl_areElements_1 (a0 : Int) (x1 : Int) : Option Bool := (impl_isElement a0 x1).bind fun r_1 => some (!r_1)
def fe_impl_areElements_1 : FE := ⟨(.pr (.int .i64) (.ptr (.int .i64))), 1, .bool, fun x => impl_areElements_1 x.1 x.2⟩
theorem ok_impl_areElements_1 : FnOK Tryd.prog 90 (fe_impl_areElements_1) := by
  refine closed_ok (tab := [(91, fe_impl_isElement)]) (l := []) ti_ok ti_ht mix (List.forall_mem_cons.2 ⟨ok_impl_isElement, (List.forall_mem_nil _)⟩) (List.forall_mem_nil _) ⟨⟨Tryd.f90, (codeOf Tryd.f90), [.tmp 3], (LOn Bool), by kernel_rfl, by kernel_rfl, by kernel_rfl, by kernel_rfl, rfl, by decide, ⟨by kernel_rfl, ?_, ?_⟩, ?_⟩⟩
  · exact no_loops (by kernel_rfl)
  · exact no_cuts (by kernel_rfl)
  · rintro ⟨a0, x1⟩
    kernel_rfl
/- 108 slices.IndexFunc[[]int64,int64] -/
def slices_IndexFunc_int64__impl_areElements_1_l0 (k : Nat) : Nat → (List Int) → Int → Int → Int → (Option Int) → Option Int
  | 0, _, _, _, _, _ => none
  | n + 1, s0, f1, x7, x8, e_0 => (if (decide (x8 < x7)) = true then (if 0 ≤ x8 then (s0[x8.toNat]?).bind fun y_1 => (impl_areElements_1 y_1 f1).bind fun r_2 => (if r_2 = true then some x8 else slices_IndexFunc_int64__impl_areElements_1_l0 k n s0 f1 x7 (w_i64 (x8 + 1)) e_0) else none) else e_0)
def slices_IndexFunc_int64__impl_areElements_1 (k : Nat) (s0 : List Int) (f1 : Int) : Option Int := slices_IndexFunc_int64__impl_areElements_1_l0 k k s0 f1 (List.length s0 : Int) 0 (some (-1))
def slices_IndexFunc_int64__impl_areElements_1_l0_h : Head := ⟨[(0, (.val (.sl 2 (.int .i64)))), (1, (.val (.fn 90 (.ptr (.int .i64))))), (7, (.val (.int .i64))), (8, (.val (.int .i64)))], [], []⟩
def slices_IndexFunc_int64__impl_areElements_1_l0_x0 : Head := ⟨[], [], []⟩
def slices_IndexFunc_int64__impl_areElements_1_l0_F (k n : Nat) (x : slices_IndexFunc_int64__impl_areElements_1_l0_h.T) (kx : Nat → St → Option Int) : Option Int := slices_IndexFunc_int64__impl_areElements_1_l0 k n x.1.1 x.1.2.1 x.1.2.2.1 x.1.2.2.2.1 (kx 0 (slices_IndexFunc_int64__impl_areElements_1_l0_x0.fill ((), (), ())))
def slices_IndexFunc_int64__impl_areElements_1_O (k : Nat) : Oracles Int := ⟨fun n => bif Nat.beq n 2 then some (fun σ kx => slices_IndexFunc_int64__impl_areElements_1_l0_h.get σ fun x => slices_IndexFunc_int64__impl_areElements_1_l0_F k k x kx) else none, fun _ => none⟩
def fe_slices_IndexFunc_int64__impl_areElements_1 (k : Nat) : FE := ⟨(.pr (.sl 2 (.int .i64)) (.fn 90 (.ptr (.int .i64)))), 1, (.int .i64), fun x => slices_IndexFunc_int64__impl_areElements_1 k x.1 x.2⟩
theorem slices_IndexFunc_int64__impl_areElements_1_l0_ok (k : Nat) : LoopOK (mkEnv ti [(90, fe_impl_areElements_1)] (lk []) pins0 pinB0) (slices_IndexFunc_int64__impl_areElements_1_O k) (rdC (mkEnv ti [(90, fe_impl_areElements_1)] (lk []) pins0 pinB0) [.tmp 4] (.int .i64)) ((loopsOf (codeOf Tryd.f108)).getD 0 .skip) (fun σ kx => slices_IndexFunc_int64__impl_areElements_1_l0_h.get σ fun x => slices_IndexFunc_int64__impl_areElements_1_l0_F k k x kx) := by
  refine ⟨slices_IndexFunc_int64__impl_areElements_1_l0_h, [(0, slices_IndexFunc_int64__impl_areElements_1_l0_x0)], fun n x kx => slices_IndexFunc_int64__impl_areElements_1_l0_F k n x kx, k, by kernel_rfl, by kernel_rfl, fun x kx => by kernel_rfl, ?_, fun σ kx => rfl⟩
  rintro n ⟨⟨s0, f1, x7, x8, ⟨⟩⟩, ⟨⟩, ⟨⟩⟩ kx
  kernel_rfl
theorem ok_slices_IndexFunc_int64__impl_areElements_1 (k : Nat) : FnOK Tryd.prog 108 (fe_slices_IndexFunc_int64__impl_areElements_1 k) := by
  refine closed_ok (tab := [(90, fe_impl_areElements_1)]) (l := []) ti_ok ti_ht mix (List.forall_mem_cons.2 ⟨ok_impl_areElements_1, (List.forall_mem_nil _)⟩) (List.forall_mem_nil _) ⟨⟨Tryd.f108, (codeOf Tryd.f108), [.tmp 4], (slices_IndexFunc_int64__impl_areElements_1_O k), by kernel_rfl, by kernel_rfl, by kernel_rfl, by kernel_rfl, rfl, by decide, ⟨by kernel_rfl, ?_, ?_⟩, ?_⟩⟩
  · refine loops_of (n := 1) (by kernel_rfl) fun i hi => ?_
    match i, hi with
    | 0, _ => exact loop_of (by kernel_rfl) (slices_IndexFunc_int64__impl_areElements_1_l0_ok k)
    | n + 1, hi => omega
  · exact no_cuts (by kernel_rfl)
  · rintro ⟨s0, f1⟩
    kernel_rfl
/- 89 slices.ContainsFunc[[]int64,int64] -/
def slices_ContainsFunc_int64__impl_areElements_1 (k : Nat) (s0 : List Int) (f1 : Int) : Option Bool := (slices_IndexFunc_int64__impl_areElements_1 k s0 f1).bind fun r_1 => some (decide (0 ≤ r_1))
def fe_slices_ContainsFunc_int64__impl_areElements_1 (k : Nat) : FE := ⟨(.pr (.sl 2 (.int .i64)) (.fn 90 (.ptr (.int .i64)))), 1, .bool, fun x => slices_ContainsFunc_int64__impl_areElements_1 k x.1 x.2⟩
theorem ok_slices_ContainsFunc_int64__impl_areElements_1 (k : Nat) : FnOK Tryd.prog 89 (fe_slices_ContainsFunc_int64__impl_areElements_1 k) := by
  refine closed_ok (tab := [(108, fe_slices_IndexFunc_int64__impl_areElements_1 k)]) (l := []) ti_ok ti_ht mix (List.forall_mem_cons.2 ⟨ok_slices_IndexFunc_int64__impl_areElements_1 k, (List.forall_mem_nil _)⟩) (List.forall_mem_nil _) ⟨⟨Tryd.f89, (codeOf Tryd.f89), [.tmp 4], (LOn Bool), by kernel_rfl, by kernel_rfl, by kernel_rfl, by kernel_rfl, rfl, by decide, ⟨by kernel_rfl, ?_, ?_⟩, ?_⟩⟩
  · exact no_loops (by kernel_rfl)
  · exact no_cuts (by kernel_rfl)
  · rintro ⟨s0, f1⟩
    kernel_rfl
/- 71 loop.example/g01005/impl.areElements -/
def impl_areElements (k : Nat) (list0 : List Int) (p1 : Int) : Option Bool := (slices_ContainsFunc_int64__impl_areElements_1 k list0 p1).bind fun r_1 => some (!r_1)
def fe_impl_areElements (k : Nat) : FE := ⟨(.pr (.sl 2 (.int .i64)) (.int .i64)), 1, .bool, fun x => impl_areElements k x.1 x.2⟩
theorem ok_impl_areElements (k : Nat) : FnOK Tryd.prog 71 (fe_impl_areElements k) := by
  refine closed_ok (tab := [(89, fe_slices_ContainsFunc_int64__impl_areElements_1 k)]) (l := []) ti_ok ti_ht mix (List.forall_mem_cons.2 ⟨ok_slices_ContainsFunc_int64__impl_areElements_1 k, (List.forall_mem_nil _)⟩) (List.forall_mem_nil _) ⟨⟨Tryd.f71, (codeOf Tryd.f71), [.tmp 4], (LOn Bool), by kernel_rfl, by kernel_rfl, by kernel_rfl, by kernel_rfl, rfl, by decide, ⟨by kernel_rfl, ?_, ?_⟩, ?_⟩⟩
  · exact no_loops (by kernel_rfl)
  · exact no_cuts (by kernel_rfl)
  · rintro ⟨list0, p1⟩
    kernel_rfl
/- 43 loop.example/g01005/impl.ValidMatrix -/
def impl_ValidMatrix (k : Nat) (m0 : Int × Int × Int × List Int) : Option Bool := (impl_ValidPrime k m0.1).bind fun r_1 => (if r_1 = true then (impl_isSide m0.2.1).bind fun r_2 => (if r_2 = true then (impl_isSide m0.2.2.1).bind fun r_3 => (if r_3 = true then (impl_size_int64 m0.2.2.2).bind fun r_4 => (if (decide (r_4 = (w_i64 (m0.2.1 * m0.2.2.1)))) = true then (impl_areElements k m0.2.2.2 m0.1).bind fun r_5 => some r_5 else some false) else some false) else some false) else some false)
def fe_impl_ValidMatrix (k : Nat) : FE := ⟨(.st (.pr (.int .i64) (.pr (.int .i64) (.pr (.int .i64) (.sl 2 (.int .i64)))))), 1, .bool, fun x => impl_ValidMatrix k x⟩
theorem ok_impl_ValidMatrix (k : Nat) : FnOK Tryd.prog 43 (fe_impl_ValidMatrix k) := by
  refine closed_ok (tab := [(68, fe_impl_ValidPrime k), (69, fe_impl_isSide), (70, fe_impl_size_int64), (71, fe_impl_areElements k)]) (l := []) ti_ok ti_ht mix (List.forall_mem_cons.2 ⟨ok_impl_ValidPrime k, (List.forall_mem_cons.2 ⟨ok_impl_isSide, (List.forall_mem_cons.2 ⟨ok_impl_size_int64, (List.forall_mem_cons.2 ⟨ok_impl_areElements k, (List.forall_mem_nil _)⟩)⟩)⟩)⟩) (List.forall_mem_nil _) ⟨⟨Tryd.f43, (codeOf Tryd.f43), [.tmp 2], (LOn Bool), by kernel_rfl, by kernel_rfl, by kernel_rfl, by kernel_rfl, rfl, by decide, ⟨by kernel_rfl, ?_, ?_⟩, ?_⟩⟩
  · exact no_loops (by kernel_rfl)
  · exact no_cuts (by kernel_rfl)
  · rintro m0
    kernel_rfl
/- 73 (loop.example/g01005/impl.Matrix).row -/
def impl_Matrix_row_r (m0 : Int × Int × Int × List Int) (i1 : Int) : Option (List Int) := (if 0 ≤ (w_i64 (i1 * m0.2.2.1)) ∧ (w_i64 (i1 * m0.2.2.1)) ≤ (w_i64 ((w_i64 (i1 + 1)) * m0.2.2.1)) ∧ (w_i64 ((w_i64 (i1 + 1)) * m0.2.2.1)) ≤ m0.2.2.2.length then some ((m0.2.2.2.drop ((w_i64 (i1 * m0.2.2.1)).toNat)).take ((w_i64 ((w_i64 (i1 + 1)) * m0.2.2.1)).toNat - (w_i64 (i1 * m0.2.2.1)).toNat)) else none)
def fe_impl_Matrix_row_r : FE := ⟨(.pr (.st (.pr (.int .i64) (.pr (.int .i64) (.pr (.int .i64) (.sl 2 (.int .i64)))))) (.int .i64)), RON, (.sl 2 (.int .i64)), fun x => impl_Matrix_row_r x.1 x.2⟩
theorem ok_impl_Matrix_row_r : FnOK Tryd.prog 73 (fe_impl_Matrix_row_r) := by
  refine read_ok (tab := []) (l := []) ti_ok ti_ht mix (List.forall_mem_nil _) (List.forall_mem_nil _) ⟨⟨Tryd.f73, (codeOf Tryd.f73), [.tmp 4], (LOn (List Int)), by kernel_rfl, by kernel_rfl, by kernel_rfl, by kernel_rfl, by decide, ⟨by kernel_rfl, ?_, ?_⟩, ?_⟩⟩
  · exact no_loops (by kernel_rfl)
  · exact no_cuts (by kernel_rfl)
  · rintro ⟨m0, i1⟩
    kernel_rfl
/- 72 slices.Clone[[]int64,int64] -/
def slices_Clone_int64 (s0 : List Int) : Option (List Int) := (if List.isEmpty s0 = true then both (some []) ((if (([] : List Unit).length + s0.length) * 8 ≤ LIM then some s0 else none)) else (if (([] : List Unit).length + s0.length) * 8 ≤ LIM then some s0 else none))
def fe_slices_Clone_int64 : FE := ⟨(.sl 2 (.int .i64)), 1, (.sl 2 (.int .i64)), fun x => slices_Clone_int64 x⟩
theorem ok_slices_Clone_int64 : FnOK Tryd.prog 72 (fe_slices_Clone_int64) := by
  refine closed_ok (tab := []) (l := []) ti_ok ti_ht mix (List.forall_mem_nil _) (List.forall_mem_nil _) ⟨⟨Tryd.f72, (codeOf Tryd.f72), [.tmp 2], (LOn (List Int)), by kernel_rfl, by kernel_rfl, by kernel_rfl, by kernel_rfl, rfl, by decide, ⟨by kernel_rfl, ?_, ?_⟩, ?_⟩⟩
  · exact no_loops (by kernel_rfl)
  · exact no_cuts (by kernel_rfl)
  · rintro s0
    kernel_rfl
/- 44 loop.example/g01005/impl.rowsOf -/
def impl_rowsOf_l0 (k : Nat) : Nat → Int → Int → (List (List Int)) → (Int × Int × Int × List Int) → ((List (List Int)) → Option (List (List Int))) → Option (List (List Int))
  | 0, _, _, _, _, _ => none
  | n + 1, x6, x7, q_1, v_1, e_0 => (if (decide (x7 < x6)) = true then (impl_Matrix_row_r v_1 x7).bind fun r_2 => (slices_Clone_int64 r_2).bind fun r_3 => (if (q_1.length + [r_3].length) * 24 ≤ LIM then impl_rowsOf_l0 k n x6 (w_i64 (x7 + 1)) (q_1 ++ [r_3]) v_1 e_0 else none) else e_0 q_1)
def impl_rowsOf (k : Nat) (m0 : Int × Int × Int × List Int) : Option (List (List Int)) := impl_rowsOf_l0 k k m0.2.1 0 [] m0 (fun q_4 => some q_4)
def impl_rowsOf_l0_h : Head := ⟨[(1, (.bp 1 [] 0)), (3, (.ref 64000000 [])), (6, (.val (.int .i64))), (7, (.val (.int .i64)))], [(64000000, 38, (.sl 2 (.int .i64)), false)], [(1, 43, (.val (.st (.pr (.int .i64) (.pr (.int .i64) (.pr (.int .i64) (.sl 2 (.int .i64))))))))]⟩
def impl_rowsOf_l0_x0 : Head := ⟨[(3, (.ref 64000000 []))], [(64000000, 38, (.sl 2 (.int .i64)), false)], []⟩
def impl_rowsOf_l0_F (k n : Nat) (x : impl_rowsOf_l0_h.T) (kx : Nat → St → Option (List (List Int))) : Option (List (List Int)) := impl_rowsOf_l0 k n x.1.2.2.1 x.1.2.2.2.1 x.2.1.1 x.2.2.1 (fun (q_4 : List (List Int)) => kx 0 (impl_rowsOf_l0_x0.fill (((), ()), (q_4, ()), ())))
def impl_rowsOf_O (k : Nat) : Oracles (List (List Int)) := ⟨fun n => bif Nat.beq n 3 then some (fun σ kx => impl_rowsOf_l0_h.get σ fun x => impl_rowsOf_l0_F k k x kx) else none, fun _ => none⟩
def fe_impl_rowsOf (k : Nat) : FE := ⟨(.st (.pr (.int .i64) (.pr (.int .i64) (.pr (.int .i64) (.sl 2 (.int .i64)))))), 1, (.sl 38 (.sl 2 (.int .i64))), fun x => impl_rowsOf k x⟩
theorem impl_rowsOf_l0_ok (k : Nat) : LoopOK (mkEnv ti [(73, fe_impl_Matrix_row_r), (72, fe_slices_Clone_int64)] (lk []) pins0 pinB0) (impl_rowsOf_O k) (rdC (mkEnv ti [(73, fe_impl_Matrix_row_r), (72, fe_slices_Clone_int64)] (lk []) pins0 pinB0) [.tmp 2] (.sl 38 (.sl 2 (.int .i64)))) ((loopsOf (codeOf Tryd.f44)).getD 0 .skip) (fun σ kx => impl_rowsOf_l0_h.get σ fun x => impl_rowsOf_l0_F k k x kx) := by
  refine ⟨impl_rowsOf_l0_h, [(0, impl_rowsOf_l0_x0)], fun n x kx => impl_rowsOf_l0_F k n x kx, k, by kernel_rfl, by kernel_rfl, fun x kx => by kernel_rfl, ?_, fun σ kx => rfl⟩
  rintro n ⟨⟨⟨⟩, ⟨⟩, x6, x7, ⟨⟩⟩, ⟨q_1, ⟨⟩⟩, ⟨v_1, ⟨⟩⟩⟩ kx
  kernel_rfl
theorem ok_impl_rowsOf (k : Nat) : FnOK Tryd.prog 44 (fe_impl_rowsOf k) := by
  refine closed_ok (tab := [(73, fe_impl_Matrix_row_r), (72, fe_slices_Clone_int64)]) (l := []) ti_ok ti_ht mix (List.forall_mem_cons.2 ⟨ok_impl_Matrix_row_r, (List.forall_mem_cons.2 ⟨ok_slices_Clone_int64, (List.forall_mem_nil _)⟩)⟩) (List.forall_mem_nil _) ⟨⟨Tryd.f44, (codeOf Tryd.f44), [.tmp 2], (impl_rowsOf_O k), by kernel_rfl, by kernel_rfl, by kernel_rfl, by kernel_rfl, rfl, by decide, ⟨by kernel_rfl, ?_, ?_⟩, ?_⟩⟩
  · refine loops_of (n := 1) (by kernel_rfl) fun i hi => ?_
    match i, hi with
    | 0, _ => exact loop_of (by kernel_rfl) (impl_rowsOf_l0_ok k)
    | n + 1, hi => omega
  · exact no_cuts (by kernel_rfl)
  · rintro m0
    kernel_rfl
/- 46 strings.Join (off the shelf) -/
def strings_Join_s (sep1 : List UInt8) (q_1 : List (List UInt8)) : Option ((List UInt8 × Unit) × (List (List UInt8) × Unit) × Unit) := if List.length q_1 ≤ LIM ∧ (Lib.join q_1 sep1).length ≤ LIM then some ((Lib.join q_1 sep1, ()), (q_1, ()), ()) else none
def oc_strings_Join_s : OC := oc_join 9
theorem ok_strings_Join_s : OpenOK Tryd.prog ti 46 oc_strings_Join_s := ok_join (fn := Tryd.f46) (cd := codeOf Tryd.f46) (by kernel_rfl) (by kernel_rfl) (by kernel_rfl) (fun bk o c xs sep w h1 h2 h3 h4 h5 => Go.Proofs.Tryd.strings_Join bk o c xs sep w h1 h2 h3 h4 h5) (fun a c sep w => Go.Proofs.Tryd.strings_Join_none a c sep w)
/- 18 loop.example/g01005/impl.MatrixPicture -/
def impl_MatrixPicture_l2 (k : Nat) : Nat → Int → Int → Int → Nat → Int → Int → (List (List UInt8)) → (List (List UInt8)) → (List (List Int)) → (Int → Int → Int → (List (List UInt8)) → (List (List UInt8)) → (List (List Int)) → Option (List (List UInt8) × Int)) → Option (List (List UInt8) × Int)
  | 0, _, _, _, _, _, _, _, _, _, _ => none
  | n + 1, width4, x32, x33, x37n0, x38, x39, q_11, q_12, q_13, e_4 => (if (decide (x39 < x38)) = true then (q_13[x37n0]?).bind fun y_14 => (if 0 ≤ x39 ∧ x39.toNat < List.length y_14 then (q_13[x37n0]?).bind fun y_15 => (y_15[x39.toNat]?).bind fun y_16 => (impl_Decimal y_16).bind fun r_17 => (strings_Repeat [32] (w_i64 (width4 - (List.length r_17 : Int)))).bind fun r_18 => (if r_18.length + r_17.length ≤ 9223372036854775807 then (if (q_12.length + [(r_18 ++ r_17)].length) * 16 ≤ LIM then impl_MatrixPicture_l2 k n width4 x32 x33 x37n0 x38 (w_i64 (x39 + 1)) q_11 (q_12 ++ [(r_18 ++ r_17)]) q_13 e_4 else none) else none) else none) else e_4 width4 x32 x33 q_11 q_12 q_13)
def impl_MatrixPicture_l0 (k : Nat) : Nat → Int → (List Int) → Int → Int → (Int × Int × Int × List Int) → (Int → (Int × Int × Int × List Int) → Option (List (List UInt8) × Int)) → Option (List (List UInt8) × Int)
  | 0, _, _, _, _, _, _ => none
  | n + 1, width4, x18, x19, x20, v_1, e_0 => (if (decide (x20 < x19)) = true then (if 0 ≤ x20 then (x18[x20.toNat]?).bind fun y_2 => (impl_Decimal y_2).bind fun r_3 => impl_MatrixPicture_l0 k n (if width4 < (List.length r_3 : Int) then (List.length r_3 : Int) else width4) x18 x19 (w_i64 (x20 + 1)) v_1 e_0 else none) else e_0 width4 v_1)
def impl_MatrixPicture_l1 (k : Nat) : Nat → Int → Int → Int → (List (List UInt8)) → (List (List Int)) → ((List (List UInt8)) → Option (List (List UInt8) × Int)) → Option (List (List UInt8) × Int)
  | 0, _, _, _, _, _, _ => none
  | n + 1, width4, x32, x33, q_7, q_8, e_2 => (if (decide (x33 < x32)) = true then (if 0 ≤ x33 ∧ x33.toNat < List.length q_8 then (q_8[x33.toNat]?).bind fun y_9 => (q_8[x33.toNat]?).bind fun y_10 => impl_MatrixPicture_l2 k k width4 x32 x33 x33.toNat (List.length y_10 : Int) 0 q_7 [] q_8 (fun width_11 x_12 x_13 q_14 q_15 q_16 => (strings_Join_s [32] q_15).bind fun y_17 => (if (q_14.length + [y_17.1.1].length) * 16 ≤ LIM then impl_MatrixPicture_l1 k n width_11 x_12 (w_i64 (x_13 + 1)) (q_14 ++ [y_17.1.1]) q_16 e_2 else none)) else none) else e_2 q_7)
def impl_MatrixPicture (k : Nat) (m0 : Int × Int × Int × List Int) : Option (List (List UInt8) × Int) := (impl_ValidMatrix k m0).bind fun r_1 => (if (!r_1) = true then some ([], 1) else impl_MatrixPicture_l0 k k 0 m0.2.2.2 (List.length m0.2.2.2 : Int) 0 m0 (fun width_4 v_5 => (impl_rowsOf k v_5).bind fun r_6 => impl_MatrixPicture_l1 k k width_4 (List.length r_6 : Int) 0 [] r_6 (fun q_18 => (impl_pictured k q_18).bind fun r_19 => some (r_19.1, r_19.2))))
def impl_MatrixPicture_l2_h : Head := ⟨[(4, (.val (.int .i64))), (7, (.ref 64000000 [])), (10, (.ref 64000001 [])), (31, (.ref 64000002 [])), (32, (.val (.int .i64))), (33, (.val (.int .i64))), (37, (.ref 64000002 [.ix])), (38, (.val (.int .i64))), (39, (.val (.int .i64)))], [(64000000, 9, .str, false), (64000001, 9, .str, false), (64000002, 38, (.sl 2 (.int .i64)), false)], []⟩
def impl_MatrixPicture_l2_x4 : Head := ⟨[(4, (.val (.int .i64))), (7, (.ref 64000000 [])), (10, (.ref 64000001 [])), (31, (.ref 64000002 [])), (32, (.val (.int .i64))), (33, (.val (.int .i64)))], [(64000000, 9, .str, false), (64000001, 9, .str, false), (64000002, 38, (.sl 2 (.int .i64)), false)], []⟩
def impl_MatrixPicture_l2_F (k n : Nat) (x : impl_MatrixPicture_l2_h.T) (kx : Nat → St → Option (List (List UInt8) × Int)) : Option (List (List UInt8) × Int) := impl_MatrixPicture_l2 k n x.1.1 x.1.2.2.2.2.1 x.1.2.2.2.2.2.1 x.1.2.2.2.2.2.2.1.1 x.1.2.2.2.2.2.2.2.1 x.1.2.2.2.2.2.2.2.2.1 x.2.1.1 x.2.1.2.1 x.2.1.2.2.1 (fun (width4 : Int) (x32 : Int) (x33 : Int) (q_19 : List (List UInt8)) (q_20 : List (List UInt8)) (q_21 : List (List Int)) => kx 4 (impl_MatrixPicture_l2_x4.fill ((width4, (), (), (), x32, x33, ()), (q_19, q_20, q_21, ()), ())))
def impl_MatrixPicture_l0_h : Head := ⟨[(1, (.bp 1 [] 0)), (4, (.val (.int .i64))), (18, (.val (.sl 2 (.int .i64)))), (19, (.val (.int .i64))), (20, (.val (.int .i64)))], [], [(1, 43, (.val (.st (.pr (.int .i64) (.pr (.int .i64) (.pr (.int .i64) (.sl 2 (.int .i64))))))))]⟩
def impl_MatrixPicture_l0_x0 : Head := ⟨[(1, (.bp 1 [] 0)), (4, (.val (.int .i64)))], [], [(1, 43, (.val (.st (.pr (.int .i64) (.pr (.int .i64) (.pr (.int .i64) (.sl 2 (.int .i64))))))))]⟩
def impl_MatrixPicture_l0_F (k n : Nat) (x : impl_MatrixPicture_l0_h.T) (kx : Nat → St → Option (List (List UInt8) × Int)) : Option (List (List UInt8) × Int) := impl_MatrixPicture_l0 k n x.1.2.1 x.1.2.2.1 x.1.2.2.2.1 x.1.2.2.2.2.1 x.2.2.1 (fun (width4 : Int) (v_1 : Int × Int × Int × List Int) => kx 0 (impl_MatrixPicture_l0_x0.fill (((), width4, ()), (), (v_1, ()))))
def impl_MatrixPicture_l1_h : Head := ⟨[(4, (.val (.int .i64))), (7, (.ref 64000000 [])), (31, (.ref 64000001 [])), (32, (.val (.int .i64))), (33, (.val (.int .i64)))], [(64000000, 9, .str, false), (64000001, 38, (.sl 2 (.int .i64)), false)], []⟩
def impl_MatrixPicture_l1_x2 : Head := ⟨[(7, (.ref 64000000 []))], [(64000000, 9, .str, false)], []⟩
def impl_MatrixPicture_l1_F (k n : Nat) (x : impl_MatrixPicture_l1_h.T) (kx : Nat → St → Option (List (List UInt8) × Int)) : Option (List (List UInt8) × Int) := impl_MatrixPicture_l1 k n x.1.1 x.1.2.2.2.1 x.1.2.2.2.2.1 x.2.1.1 x.2.1.2.1 (fun (q_26 : List (List UInt8)) => kx 2 (impl_MatrixPicture_l1_x2.fill (((), ()), (q_26, ()), ())))
def impl_MatrixPicture_O (k : Nat) : Oracles (List (List UInt8) × Int) := ⟨fun n => bif Nat.beq n 15 then some (fun σ kx => impl_MatrixPicture_l2_h.get σ fun x => impl_MatrixPicture_l2_F k k x kx) else bif Nat.beq n 5 then some (fun σ kx => impl_MatrixPicture_l0_h.get σ fun x => impl_MatrixPicture_l0_F k k x kx) else bif Nat.beq n 11 then some (fun σ kx => impl_MatrixPicture_l1_h.get σ fun x => impl_MatrixPicture_l1_F k k x kx) else none, fun _ => none⟩
def fe_impl_MatrixPicture (k : Nat) : FE := ⟨(.st (.pr (.int .i64) (.pr (.int .i64) (.pr (.int .i64) (.sl 2 (.int .i64)))))), 2, (.pr (.sl 9 .str) (.int .i64)), fun x => impl_MatrixPicture k x⟩
theorem impl_MatrixPicture_l2_ok (k : Nat) : LoopOK (mkEnv ti [(43, fe_impl_ValidMatrix k), (34, fe_impl_Decimal), (44, fe_impl_rowsOf k), (45, fe_strings_Repeat), (35, fe_impl_pictured k)] (lk [(58, 46, oc_strings_Join_s)]) pins0 pinB0) (impl_MatrixPicture_O k) (rdC (mkEnv ti [(43, fe_impl_ValidMatrix k), (34, fe_impl_Decimal), (44, fe_impl_rowsOf k), (45, fe_strings_Repeat), (35, fe_impl_pictured k)] (lk [(58, 46, oc_strings_Join_s)]) pins0 pinB0) [.tmp 2, .tmp 3] (.pr (.sl 9 .str) (.int .i64))) ((loopsOf (codeOf Tryd.f18)).getD 2 .skip) (fun σ kx => impl_MatrixPicture_l2_h.get σ fun x => impl_MatrixPicture_l2_F k k x kx) := by
  refine ⟨impl_MatrixPicture_l2_h, [(4, impl_MatrixPicture_l2_x4)], fun n x kx => impl_MatrixPicture_l2_F k n x kx, k, by kernel_rfl, by kernel_rfl, fun x kx => by kernel_rfl, ?_, fun σ kx => rfl⟩
  rintro n ⟨⟨width4, ⟨⟩, ⟨⟩, ⟨⟩, x32, x33, ⟨x37n0, ⟨⟩⟩, x38, x39, ⟨⟩⟩, ⟨q_11, q_12, q_13, ⟨⟩⟩, ⟨⟩⟩ kx
  kernel_rfl
theorem impl_MatrixPicture_l0_ok (k : Nat) : LoopOK (mkEnv ti [(43, fe_impl_ValidMatrix k), (34, fe_impl_Decimal), (44, fe_impl_rowsOf k), (45, fe_strings_Repeat), (35, fe_impl_pictured k)] (lk [(58, 46, oc_strings_Join_s)]) pins0 pinB0) (impl_MatrixPicture_O k) (rdC (mkEnv ti [(43, fe_impl_ValidMatrix k), (34, fe_impl_Decimal), (44, fe_impl_rowsOf k), (45, fe_strings_Repeat), (35, fe_impl_pictured k)] (lk [(58, 46, oc_strings_Join_s)]) pins0 pinB0) [.tmp 2, .tmp 3] (.pr (.sl 9 .str) (.int .i64))) ((loopsOf (codeOf Tryd.f18)).getD 0 .skip) (fun σ kx => impl_MatrixPicture_l0_h.get σ fun x => impl_MatrixPicture_l0_F k k x kx) := by
  refine ⟨impl_MatrixPicture_l0_h, [(0, impl_MatrixPicture_l0_x0)], fun n x kx => impl_MatrixPicture_l0_F k n x kx, k, by kernel_rfl, by kernel_rfl, fun x kx => by kernel_rfl, ?_, fun σ kx => rfl⟩
  rintro n ⟨⟨⟨⟩, width4, x18, x19, x20, ⟨⟩⟩, ⟨⟩, ⟨v_1, ⟨⟩⟩⟩ kx
  kernel_rfl
theorem impl_MatrixPicture_l1_ok (k : Nat) : LoopOK (mkEnv ti [(43, fe_impl_ValidMatrix k), (34, fe_impl_Decimal), (44, fe_impl_rowsOf k), (45, fe_strings_Repeat), (35, fe_impl_pictured k)] (lk [(58, 46, oc_strings_Join_s)]) pins0 pinB0) (impl_MatrixPicture_O k) (rdC (mkEnv ti [(43, fe_impl_ValidMatrix k), (34, fe_impl_Decimal), (44, fe_impl_rowsOf k), (45, fe_strings_Repeat), (35, fe_impl_pictured k)] (lk [(58, 46, oc_strings_Join_s)]) pins0 pinB0) [.tmp 2, .tmp 3] (.pr (.sl 9 .str) (.int .i64))) ((loopsOf (codeOf Tryd.f18)).getD 1 .skip) (fun σ kx => impl_MatrixPicture_l1_h.get σ fun x => impl_MatrixPicture_l1_F k k x kx) := by
  refine ⟨impl_MatrixPicture_l1_h, [(2, impl_MatrixPicture_l1_x2)], fun n x kx => impl_MatrixPicture_l1_F k n x kx, k, by kernel_rfl, by kernel_rfl, fun x kx => by kernel_rfl, ?_, fun σ kx => rfl⟩
  rintro n ⟨⟨width4, ⟨⟩, ⟨⟩, x32, x33, ⟨⟩⟩, ⟨q_7, q_8, ⟨⟩⟩, ⟨⟩⟩ kx
  kernel_rfl
theorem ok_impl_MatrixPicture (k : Nat) : FnOK Tryd.prog 18 (fe_impl_MatrixPicture k) := by
  refine closed_ok (tab := [(43, fe_impl_ValidMatrix k), (34, fe_impl_Decimal), (44, fe_impl_rowsOf k), (45, fe_strings_Repeat), (35, fe_impl_pictured k)]) (l := [(58, 46, oc_strings_Join_s)]) ti_ok ti_ht mix (List.forall_mem_cons.2 ⟨ok_impl_ValidMatrix k, (List.forall_mem_cons.2 ⟨ok_impl_Decimal, (List.forall_mem_cons.2 ⟨ok_impl_rowsOf k, (List.forall_mem_cons.2 ⟨ok_strings_Repeat, (List.forall_mem_cons.2 ⟨ok_impl_pictured k, (List.forall_mem_nil _)⟩)⟩)⟩)⟩)⟩) (List.forall_mem_cons.2 ⟨ok_strings_Join_s, (List.forall_mem_nil _)⟩) ⟨⟨Tryd.f18, (codeOf Tryd.f18), [.tmp 2, .tmp 3], (impl_MatrixPicture_O k), by kernel_rfl, by kernel_rfl, by kernel_rfl, by kernel_rfl, rfl, by decide, ⟨by kernel_rfl, ?_, ?_⟩, ?_⟩⟩
  · refine loops_of (n := 3) (by kernel_rfl) fun i hi => ?_
    match i, hi with
    | 0, _ => exact loop_of (by kernel_rfl) (impl_MatrixPicture_l0_ok k)
    | 1, _ => exact loop_of (by kernel_rfl) (impl_MatrixPicture_l1_ok k)
    | 2, _ => exact loop_of (by kernel_rfl) (impl_MatrixPicture_l2_ok k)
    | n + 3, hi => omega
  · exact no_cuts (by kernel_rfl)
  · rintro m0
    kernel_rfl
end
end Go.Proofs.YtackggcodaolaaaDoor.Ev
