/- Functions of the program, as plain ones. No conditions. -/
import Derived.Test.YtmmkijdfiaaobaaGreatG6
import Derived.KernelRfl
set_option linter.unusedVariables false
set_option maxRecDepth 100000
namespace Go.Proofs.YtmmkijdfiaaobaaGreat.Ev
open Go.RowKit
noncomputable section
/- 116 loop.example/g01005/impl.faceIndices -/
def impl_faceIndices_l0 (k : Nat) : Nat → Int → Int → (List Int) → (List (List Int)) → (List (List Int)) → ((List Int) → Option (List Int)) → Option (List Int)
  | 0, _, _, _, _, _, _ => none
  | n + 1, x14, x15, q_3, q_4, v_2, e_0 => (if (decide (x15 < x14)) = true then (if 0 ≤ x15 ∧ x15.toNat < List.length q_4 then (q_4[x15.toNat]?).bind fun y_5 => (q_4[x15.toNat]?).bind fun y_6 => (impl_indexOf k v_2 y_6).bind fun r_7 => (if (q_3.length + [r_7].length) * 8 ≤ LIM then impl_faceIndices_l0 k n x14 (w_i64 (x15 + 1)) (q_3 ++ [r_7]) q_4 v_2 e_0 else none) else none) else e_0 q_3)
def impl_faceIndices (k : Nat) (c0 : List (List Int)) (k1 : Int) : Option (List Int) := (if 0 ≤ k1 then (c0[k1.toNat]?).bind fun y_1 => (impl_facesOf k y_1).bind fun r_2 => impl_faceIndices_l0 k k (List.length r_2 : Int) 0 [] r_2 c0 (fun q_8 => some q_8) else none)
def impl_faceIndices_l0_h : Head := ⟨[(2, (.bp 2 [] 0)), (5, (.ref 64000000 [])), (13, (.ref 64000001 [])), (14, (.val (.int .i64))), (15, (.val (.int .i64)))], [(64000000, 2, (.int .i64), false), (64000001, 25, (.sl 2 (.int .i64)), false)], [(2, 42, (.val (.st (.sl 25 (.sl 2 (.int .i64))))))]⟩
def impl_faceIndices_l0_x0 : Head := ⟨[(5, (.ref 64000000 []))], [(64000000, 2, (.int .i64), false)], []⟩
def impl_faceIndices_l0_F (k n : Nat) (x : impl_faceIndices_l0_h.T) (kx : Nat → St → Option (List Int)) : Option (List Int) := impl_faceIndices_l0 k n x.1.2.2.2.1 x.1.2.2.2.2.1 x.2.1.1 x.2.1.2.1 x.2.2.1 (fun (q_9 : List Int) => kx 0 (impl_faceIndices_l0_x0.fill (((), ()), (q_9, ()), ())))
def impl_faceIndices_O (k : Nat) : Oracles (List Int) := ⟨fun n => bif Nat.beq n 3 then some (fun σ kx => impl_faceIndices_l0_h.get σ fun x => impl_faceIndices_l0_F k k x kx) else none, fun _ => none⟩
def fe_impl_faceIndices (k : Nat) : FE := ⟨(.pr (.st (.sl 25 (.sl 2 (.int .i64)))) (.int .i64)), 1, (.sl 2 (.int .i64)), fun x => impl_faceIndices k x.1 x.2⟩
theorem impl_faceIndices_l0_ok (k : Nat) : LoopOK (mkEnv ti [(111, fe_impl_facesOf k), (113, fe_impl_indexOf k)] (lk []) pins0 pinB0) (impl_faceIndices_O k) (rdC (mkEnv ti [(111, fe_impl_facesOf k), (113, fe_impl_indexOf k)] (lk []) pins0 pinB0) [.tmp 4] (.sl 2 (.int .i64))) ((loopsOf (codeOf Tryz.f116)).getD 0 .skip) (fun σ kx => impl_faceIndices_l0_h.get σ fun x => impl_faceIndices_l0_F k k x kx) := by
  refine ⟨impl_faceIndices_l0_h, [(0, impl_faceIndices_l0_x0)], fun n x kx => impl_faceIndices_l0_F k n x kx, k, by kernel_rfl, by kernel_rfl, fun x kx => by kernel_rfl, ?_, fun σ kx => rfl⟩
  rintro n ⟨⟨⟨⟩, ⟨⟩, ⟨⟩, x14, x15, ⟨⟩⟩, ⟨q_3, q_4, ⟨⟩⟩, ⟨v_2, ⟨⟩⟩⟩ kx
  kernel_rfl
theorem ok_impl_faceIndices (k : Nat) : FnOK Tryz.prog 116 (fe_impl_faceIndices k) := by
  refine closed_ok (tab := [(111, fe_impl_facesOf k), (113, fe_impl_indexOf k)]) (l := []) ti_ok ti_ht mix (List.forall_mem_cons.2 ⟨ok_impl_facesOf k, (List.forall_mem_cons.2 ⟨ok_impl_indexOf k, (List.forall_mem_nil _)⟩)⟩) (List.forall_mem_nil _) ⟨⟨Tryz.f116, (codeOf Tryz.f116), [.tmp 4], (impl_faceIndices_O k), by kernel_rfl, by kernel_rfl, by kernel_rfl, by kernel_rfl, rfl, by decide, ⟨by kernel_rfl, ?_, ?_⟩, ?_⟩⟩
  · refine loops_of (n := 1) (by kernel_rfl) fun i hi => ?_
    match i, hi with
    | 0, _ => exact loop_of (by kernel_rfl) (impl_faceIndices_l0_ok k)
    | n + 1, hi => omega
  · exact no_cuts (by kernel_rfl)
  · rintro ⟨c0, k1⟩
    kernel_rfl
/- 62 loop.example/g01005/impl.arrows -/
def impl_arrows_l1 (k : Nat) : Nat → Int → Int → Int → Int → Int → (List (Int × Int × Int)) → (List Int) → (List (List Int)) → (Int → Int → (List (Int × Int × Int)) → (List (List Int)) → Option (List (Int × Int × Int))) → Option (List (Int × Int × Int))
  | 0, _, _, _, _, _, _, _, _, _ => none
  | n + 1, k4, x9, x10, x16, x17, q_4, q_5, v_1, e_2 => (if (decide (x17 < x16)) = true then (if 0 ≤ x17 ∧ x17.toNat < List.length q_5 then (q_5[x17.toNat]?).bind fun y_6 => (if (q_4.length + [(k4, (x17, y_6))].length) * 24 ≤ LIM then impl_arrows_l1 k n k4 x9 x10 x16 (w_i64 (x17 + 1)) (q_4 ++ [(k4, (x17, y_6))]) q_5 v_1 e_2 else none) else none) else e_2 x9 x10 q_4 v_1)
def impl_arrows_l0 (k : Nat) : Nat → Int → Int → (List (Int × Int × Int)) → (List (List Int)) → ((List (Int × Int × Int)) → Option (List (Int × Int × Int))) → Option (List (Int × Int × Int))
  | 0, _, _, _, _, _ => none
  | n + 1, x9, x10, q_2, v_1, e_0 => (if (decide (x10 < x9)) = true then (impl_faceIndices k v_1 x10).bind fun r_3 => impl_arrows_l1 k k x10 x9 x10 (List.length r_3 : Int) 0 q_2 r_3 v_1 (fun x_4 x_5 q_6 v_7 => impl_arrows_l0 k n x_4 (w_i64 (x_5 + 1)) q_6 v_7 e_0) else e_0 q_2)
def impl_arrows (k : Nat) (c0 : List (List Int)) : Option (List (Int × Int × Int)) := (impl_size_int64_i2 c0).bind fun r_1 => impl_arrows_l0 k k r_1 0 [] c0 (fun q_8 => some q_8)
def impl_arrows_l1_h : Head := ⟨[(1, (.bp 1 [] 0)), (3, (.ref 64000000 [])), (4, (.val (.int .i64))), (9, (.val (.int .i64))), (10, (.val (.int .i64))), (15, (.ref 64000001 [])), (16, (.val (.int .i64))), (17, (.val (.int .i64)))], [(64000000, 125, (.st (.pr (.int .i64) (.pr (.int .i64) (.int .i64)))), false), (64000001, 2, (.int .i64), false)], [(1, 42, (.val (.st (.sl 25 (.sl 2 (.int .i64))))))]⟩
def impl_arrows_l1_x2 : Head := ⟨[(1, (.bp 1 [] 0)), (3, (.ref 64000000 [])), (9, (.val (.int .i64))), (10, (.val (.int .i64)))], [(64000000, 125, (.st (.pr (.int .i64) (.pr (.int .i64) (.int .i64)))), false)], [(1, 42, (.val (.st (.sl 25 (.sl 2 (.int .i64))))))]⟩
def impl_arrows_l1_F (k n : Nat) (x : impl_arrows_l1_h.T) (kx : Nat → St → Option (List (Int × Int × Int))) : Option (List (Int × Int × Int)) := impl_arrows_l1 k n x.1.2.2.1 x.1.2.2.2.1 x.1.2.2.2.2.1 x.1.2.2.2.2.2.2.1 x.1.2.2.2.2.2.2.2.1 x.2.1.1 x.2.1.2.1 x.2.2.1 (fun (x9 : Int) (x10 : Int) (q_7 : List (Int × Int × Int)) (v_1 : List (List Int)) => kx 2 (impl_arrows_l1_x2.fill (((), (), x9, x10, ()), (q_7, ()), (v_1, ()))))
def impl_arrows_l0_h : Head := ⟨[(1, (.bp 1 [] 0)), (3, (.ref 64000000 [])), (9, (.val (.int .i64))), (10, (.val (.int .i64)))], [(64000000, 125, (.st (.pr (.int .i64) (.pr (.int .i64) (.int .i64)))), false)], [(1, 42, (.val (.st (.sl 25 (.sl 2 (.int .i64))))))]⟩
def impl_arrows_l0_x0 : Head := ⟨[(3, (.ref 64000000 []))], [(64000000, 125, (.st (.pr (.int .i64) (.pr (.int .i64) (.int .i64)))), false)], []⟩
def impl_arrows_l0_F (k n : Nat) (x : impl_arrows_l0_h.T) (kx : Nat → St → Option (List (Int × Int × Int))) : Option (List (Int × Int × Int)) := impl_arrows_l0 k n x.1.2.2.1 x.1.2.2.2.1 x.2.1.1 x.2.2.1 (fun (q_11 : List (Int × Int × Int)) => kx 0 (impl_arrows_l0_x0.fill (((), ()), (q_11, ()), ())))
def impl_arrows_O (k : Nat) : Oracles (List (Int × Int × Int)) := ⟨fun n => bif Nat.beq n 6 then some (fun σ kx => impl_arrows_l1_h.get σ fun x => impl_arrows_l1_F k k x kx) else bif Nat.beq n 3 then some (fun σ kx => impl_arrows_l0_h.get σ fun x => impl_arrows_l0_F k k x kx) else none, fun _ => none⟩
def fe_impl_arrows (k : Nat) : FE := ⟨(.st (.sl 25 (.sl 2 (.int .i64)))), 1, (.sl 125 (.st (.pr (.int .i64) (.pr (.int .i64) (.int .i64))))), fun x => impl_arrows k x⟩
theorem impl_arrows_l1_ok (k : Nat) : LoopOK (mkEnv ti [(115, fe_impl_size_int64_i2), (116, fe_impl_faceIndices k)] (lk []) pins0 pinB0) (impl_arrows_O k) (rdC (mkEnv ti [(115, fe_impl_size_int64_i2), (116, fe_impl_faceIndices k)] (lk []) pins0 pinB0) [.tmp 2] (.sl 125 (.st (.pr (.int .i64) (.pr (.int .i64) (.int .i64)))))) ((loopsOf (codeOf Tryz.f62)).getD 1 .skip) (fun σ kx => impl_arrows_l1_h.get σ fun x => impl_arrows_l1_F k k x kx) := by
  refine ⟨impl_arrows_l1_h, [(2, impl_arrows_l1_x2)], fun n x kx => impl_arrows_l1_F k n x kx, k, by kernel_rfl, by kernel_rfl, fun x kx => by kernel_rfl, ?_, fun σ kx => rfl⟩
  rintro n ⟨⟨⟨⟩, ⟨⟩, k4, x9, x10, ⟨⟩, x16, x17, ⟨⟩⟩, ⟨q_4, q_5, ⟨⟩⟩, ⟨v_1, ⟨⟩⟩⟩ kx
  kernel_rfl
theorem impl_arrows_l0_ok (k : Nat) : LoopOK (mkEnv ti [(115, fe_impl_size_int64_i2), (116, fe_impl_faceIndices k)] (lk []) pins0 pinB0) (impl_arrows_O k) (rdC (mkEnv ti [(115, fe_impl_size_int64_i2), (116, fe_impl_faceIndices k)] (lk []) pins0 pinB0) [.tmp 2] (.sl 125 (.st (.pr (.int .i64) (.pr (.int .i64) (.int .i64)))))) ((loopsOf (codeOf Tryz.f62)).getD 0 .skip) (fun σ kx => impl_arrows_l0_h.get σ fun x => impl_arrows_l0_F k k x kx) := by
  refine ⟨impl_arrows_l0_h, [(0, impl_arrows_l0_x0)], fun n x kx => impl_arrows_l0_F k n x kx, k, by kernel_rfl, by kernel_rfl, fun x kx => by kernel_rfl, ?_, fun σ kx => rfl⟩
  rintro n ⟨⟨⟨⟩, ⟨⟩, x9, x10, ⟨⟩⟩, ⟨q_2, ⟨⟩⟩, ⟨v_1, ⟨⟩⟩⟩ kx
  kernel_rfl
theorem ok_impl_arrows (k : Nat) : FnOK Tryz.prog 62 (fe_impl_arrows k) := by
  refine closed_ok (tab := [(115, fe_impl_size_int64_i2), (116, fe_impl_faceIndices k)]) (l := []) ti_ok ti_ht mix (List.forall_mem_cons.2 ⟨ok_impl_size_int64_i2, (List.forall_mem_cons.2 ⟨ok_impl_faceIndices k, (List.forall_mem_nil _)⟩)⟩) (List.forall_mem_nil _) ⟨⟨Tryz.f62, (codeOf Tryz.f62), [.tmp 2], (impl_arrows_O k), by kernel_rfl, by kernel_rfl, by kernel_rfl, by kernel_rfl, rfl, by decide, ⟨by kernel_rfl, ?_, ?_⟩, ?_⟩⟩
  · refine loops_of (n := 2) (by kernel_rfl) fun i hi => ?_
    match i, hi with
    | 0, _ => exact loop_of (by kernel_rfl) (impl_arrows_l0_ok k)
    | 1, _ => exact loop_of (by kernel_rfl) (impl_arrows_l1_ok k)
    | n + 2, hi => omega
  · exact no_cuts (by kernel_rfl)
  · rintro c0
    kernel_rfl
/- 66 loop.example/g01005/impl.isSide -/
def impl_isSide (n0 : Int) : Option Bool := (impl_within n0 0 32).bind fun r_1 => some r_1
def fe_impl_isSide : FE := ⟨(.int .i64), 1, .bool, fun x => impl_isSide x⟩
theorem ok_impl_isSide : FnOK Tryz.prog 66 (fe_impl_isSide) := by
  refine closed_ok (tab := [(64, fe_impl_within)]) (l := []) ti_ok ti_ht mix (List.forall_mem_cons.2 ⟨ok_impl_within, (List.forall_mem_nil _)⟩) (List.forall_mem_nil _) ⟨⟨Tryz.f66, (codeOf Tryz.f66), [.tmp 2], (LOn Bool), by kernel_rfl, by kernel_rfl, by kernel_rfl, by kernel_rfl, rfl, by decide, ⟨by kernel_rfl, ?_, ?_⟩, ?_⟩⟩
  · exact no_loops (by kernel_rfl)
  · exact no_cuts (by kernel_rfl)
  · rintro n0
    kernel_rfl
/- 120 loop.example/g01005/impl.isElement -/
def impl_isElement (a0 : Int) (p1 : Int) : Option Bool := (impl_within a0 0 (w_i64 (p1 - 1))).bind fun r_1 => some r_1
def fe_impl_isElement : FE := ⟨(.pr (.int .i64) (.int .i64)), 1, .bool, fun x => impl_isElement x.1 x.2⟩
theorem ok_impl_isElement : FnOK Tryz.prog 120 (fe_impl_isElement) := by
  refine closed_ok (tab := [(64, fe_impl_within)]) (l := []) ti_ok ti_ht mix (List.forall_mem_cons.2 ⟨ok_impl_within, (List.forall_mem_nil _)⟩) (List.forall_mem_nil _) ⟨⟨Tryz.f120, (codeOf Tryz.f120), [.tmp 4], (LOn Bool), by kernel_rfl, by kernel_rfl, by kernel_rfl, by kernel_rfl, rfl, by decide, ⟨by kernel_rfl, ?_, ?_⟩, ?_⟩⟩
  · exact no_loops (by kernel_rfl)
  · exact no_cuts (by kernel_rfl)
  · rintro ⟨a0, p1⟩
    kernel_rfl
/- 119 loop.example/g01005/impl.areElements$1 -/
def impl_areElements_1 (a0 : Int) (x1 : Int) : Option Bool := (impl_isElement a0 x1).bind fun r_1 => some (!r_1)
def fe_impl_areElements_1 : FE := ⟨(.pr (.int .i64) (.ptr (.int .i64))), 1, .bool, fun x => impl_areElements_1 x.1 x.2⟩
theorem ok_impl_areElements_1 : FnOK Tryz.prog 119 (fe_impl_areElements_1) := by
  refine closed_ok (tab := [(120, fe_impl_isElement)]) (l := []) ti_ok ti_ht mix (List.forall_mem_cons.2 ⟨ok_impl_isElement, (List.forall_mem_nil _)⟩) (List.forall_mem_nil _) ⟨⟨Tryz.f119, (codeOf Tryz.f119), [.tmp 3], (LOn Bool), by kernel_rfl, by kernel_rfl, by kernel_rfl, by kernel_rfl, rfl, by decide, ⟨by kernel_rfl, ?_, ?_⟩, ?_⟩⟩
  · exact no_loops (by kernel_rfl)
  · exact no_cuts (by kernel_rfl)
  · rintro ⟨a0, x1⟩
    kernel_rfl
/- 124 slices.IndexFunc[[]int64,int64] -/
def slices_IndexFunc_int64__impl_areElements_1_l0 (k : Nat) : Nat → (List Int) → Int → Int → Int → (Option Int) → Option Int
  | 0, _, _, _, _, _ => none
  | n + 1, s0, f1, x7, x8, e_0 => (if (decide (x8 < x7)) = true then (if 0 ≤ x8 then (s0[x8.toNat]?).bind fun y_1 => (impl_areElements_1 y_1 f1).bind fun r_2 => (if r_2 = true then some x8 else slices_IndexFunc_int64__impl_areElements_1_l0 k n s0 f1 x7 (w_i64 (x8 + 1)) e_0) else none) else e_0)
def slices_IndexFunc_int64__impl_areElements_1 (k : Nat) (s0 : List Int) (f1 : Int) : Option Int := slices_IndexFunc_int64__impl_areElements_1_l0 k k s0 f1 (List.length s0 : Int) 0 (some (-1))
def slices_IndexFunc_int64__impl_areElements_1_l0_h : Head := ⟨[(0, (.val (.sl 2 (.int .i64)))), (1, (.val (.fn 119 (.ptr (.int .i64))))), (7, (.val (.int .i64))), (8, (.val (.int .i64)))], [], []⟩
def slices_IndexFunc_int64__impl_areElements_1_l0_x0 : Head := ⟨[], [], []⟩
def slices_IndexFunc_int64__impl_areElements_1_l0_F (k n : Nat) (x : slices_IndexFunc_int64__impl_areElements_1_l0_h.T) (kx : Nat → St → Option Int) : Option Int := slices_IndexFunc_int64__impl_areElements_1_l0 k n x.1.1 x.1.2.1 x.1.2.2.1 x.1.2.2.2.1 (kx 0 (slices_IndexFunc_int64__impl_areElements_1_l0_x0.fill ((), (), ())))
def slices_IndexFunc_int64__impl_areElements_1_O (k : Nat) : Oracles Int := ⟨fun n => bif Nat.beq n 2 then some (fun σ kx => slices_IndexFunc_int64__impl_areElements_1_l0_h.get σ fun x => slices_IndexFunc_int64__impl_areElements_1_l0_F k k x kx) else none, fun _ => none⟩
def fe_slices_IndexFunc_int64__impl_areElements_1 (k : Nat) : FE := ⟨(.pr (.sl 2 (.int .i64)) (.fn 119 (.ptr (.int .i64)))), 1, (.int .i64), fun x => slices_IndexFunc_int64__impl_areElements_1 k x.1 x.2⟩
theorem slices_IndexFunc_int64__impl_areElements_1_l0_ok (k : Nat) : LoopOK (mkEnv ti [(119, fe_impl_areElements_1)] (lk []) pins0 pinB0) (slices_IndexFunc_int64__impl_areElements_1_O k) (rdC (mkEnv ti [(119, fe_impl_areElements_1)] (lk []) pins0 pinB0) [.tmp 4] (.int .i64)) ((loopsOf (codeOf Tryz.f124)).getD 0 .skip) (fun σ kx => slices_IndexFunc_int64__impl_areElements_1_l0_h.get σ fun x => slices_IndexFunc_int64__impl_areElements_1_l0_F k k x kx) := by
  refine ⟨slices_IndexFunc_int64__impl_areElements_1_l0_h, [(0, slices_IndexFunc_int64__impl_areElements_1_l0_x0)], fun n x kx => slices_IndexFunc_int64__impl_areElements_1_l0_F k n x kx, k, by kernel_rfl, by kernel_rfl, fun x kx => by kernel_rfl, ?_, fun σ kx => rfl⟩
  rintro n ⟨⟨s0, f1, x7, x8, ⟨⟩⟩, ⟨⟩, ⟨⟩⟩ kx
  kernel_rfl
theorem ok_slices_IndexFunc_int64__impl_areElements_1 (k : Nat) : FnOK Tryz.prog 124 (fe_slices_IndexFunc_int64__impl_areElements_1 k) := by
  refine closed_ok (tab := [(119, fe_impl_areElements_1)]) (l := []) ti_ok ti_ht mix (List.forall_mem_cons.2 ⟨ok_impl_areElements_1, (List.forall_mem_nil _)⟩) (List.forall_mem_nil _) ⟨⟨Tryz.f124, (codeOf Tryz.f124), [.tmp 4], (slices_IndexFunc_int64__impl_areElements_1_O k), by kernel_rfl, by kernel_rfl, by kernel_rfl, by kernel_rfl, rfl, by decide, ⟨by kernel_rfl, ?_, ?_⟩, ?_⟩⟩
  · refine loops_of (n := 1) (by kernel_rfl) fun i hi => ?_
    match i, hi with
    | 0, _ => exact loop_of (by kernel_rfl) (slices_IndexFunc_int64__impl_areElements_1_l0_ok k)
    | n + 1, hi => omega
  · exact no_cuts (by kernel_rfl)
  · rintro ⟨s0, f1⟩
    kernel_rfl
/- 72 slices.ContainsFunc[[]int64,int64] -/
def slices_ContainsFunc_int64__impl_areElements_1 (k : Nat) (s0 : List Int) (f1 : Int) : Option Bool := (slices_IndexFunc_int64__impl_areElements_1 k s0 f1).bind fun r_1 => some (decide (0 ≤ r_1))
def fe_slices_ContainsFunc_int64__impl_areElements_1 (k : Nat) : FE := ⟨(.pr (.sl 2 (.int .i64)) (.fn 119 (.ptr (.int .i64)))), 1, .bool, fun x => slices_ContainsFunc_int64__impl_areElements_1 k x.1 x.2⟩
theorem ok_slices_ContainsFunc_int64__impl_areElements_1 (k : Nat) : FnOK Tryz.prog 72 (fe_slices_ContainsFunc_int64__impl_areElements_1 k) := by
  refine closed_ok (tab := [(124, fe_slices_IndexFunc_int64__impl_areElements_1 k)]) (l := []) ti_ok ti_ht mix (List.forall_mem_cons.2 ⟨ok_slices_IndexFunc_int64__impl_areElements_1 k, (List.forall_mem_nil _)⟩) (List.forall_mem_nil _) ⟨⟨Tryz.f72, (codeOf Tryz.f72), [.tmp 4], (LOn Bool), by kernel_rfl, by kernel_rfl, by kernel_rfl, by kernel_rfl, rfl, by decide, ⟨by kernel_rfl, ?_, ?_⟩, ?_⟩⟩
  · exact no_loops (by kernel_rfl)
  · exact no_cuts (by kernel_rfl)
  · rintro ⟨s0, f1⟩
    kernel_rfl
/- 68 loop.example/g01005/impl.areElements -/
def impl_areElements (k : Nat) (list0 : List Int) (p1 : Int) : Option Bool := (slices_ContainsFunc_int64__impl_areElements_1 k list0 p1).bind fun r_1 => some (!r_1)
def fe_impl_areElements (k : Nat) : FE := ⟨(.pr (.sl 2 (.int .i64)) (.int .i64)), 1, .bool, fun x => impl_areElements k x.1 x.2⟩
theorem ok_impl_areElements (k : Nat) : FnOK Tryz.prog 68 (fe_impl_areElements k) := by
  refine closed_ok (tab := [(72, fe_slices_ContainsFunc_int64__impl_areElements_1 k)]) (l := []) ti_ok ti_ht mix (List.forall_mem_cons.2 ⟨ok_slices_ContainsFunc_int64__impl_areElements_1 k, (List.forall_mem_nil _)⟩) (List.forall_mem_nil _) ⟨⟨Tryz.f68, (codeOf Tryz.f68), [.tmp 4], (LOn Bool), by kernel_rfl, by kernel_rfl, by kernel_rfl, by kernel_rfl, rfl, by decide, ⟨by kernel_rfl, ?_, ?_⟩, ?_⟩⟩
  · exact no_loops (by kernel_rfl)
  · exact no_cuts (by kernel_rfl)
  · rintro ⟨list0, p1⟩
    kernel_rfl
/- 26 loop.example/g01005/impl.ValidMatrix -/
def impl_ValidMatrix (k : Nat) (m0 : Int × Int × Int × List Int) : Option Bool := (impl_ValidPrime k m0.1).bind fun r_1 => (if r_1 = true then (impl_isSide m0.2.1).bind fun r_2 => (if r_2 = true then (impl_isSide m0.2.2.1).bind fun r_3 => (if r_3 = true then (impl_size_int64 m0.2.2.2).bind fun r_4 => (if (decide (r_4 = (w_i64 (m0.2.1 * m0.2.2.1)))) = true then (impl_areElements k m0.2.2.2 m0.1).bind fun r_5 => some r_5 else some false) else some false) else some false) else some false)
def fe_impl_ValidMatrix (k : Nat) : FE := ⟨(.st (.pr (.int .i64) (.pr (.int .i64) (.pr (.int .i64) (.sl 2 (.int .i64)))))), 1, .bool, fun x => impl_ValidMatrix k x⟩
theorem ok_impl_ValidMatrix (k : Nat) : FnOK Tryz.prog 26 (fe_impl_ValidMatrix k) := by
  refine closed_ok (tab := [(60, fe_impl_ValidPrime k), (66, fe_impl_isSide), (67, fe_impl_size_int64), (68, fe_impl_areElements k)]) (l := []) ti_ok ti_ht mix (List.forall_mem_cons.2 ⟨ok_impl_ValidPrime k, (List.forall_mem_cons.2 ⟨ok_impl_isSide, (List.forall_mem_cons.2 ⟨ok_impl_size_int64, (List.forall_mem_cons.2 ⟨ok_impl_areElements k, (List.forall_mem_nil _)⟩)⟩)⟩)⟩) (List.forall_mem_nil _) ⟨⟨Tryz.f26, (codeOf Tryz.f26), [.tmp 2], (LOn Bool), by kernel_rfl, by kernel_rfl, by kernel_rfl, by kernel_rfl, rfl, by decide, ⟨by kernel_rfl, ?_, ?_⟩, ?_⟩⟩
  · exact no_loops (by kernel_rfl)
  · exact no_cuts (by kernel_rfl)
  · rintro m0
    kernel_rfl
/- 63 loop.example/g01005/impl.isBetween -/
def impl_isBetween (k : Nat) (m0 : Int × Int × Int × List Int) (p1 : Int) (from2 : Int) (to3 : Int) : Option Bool := (impl_ValidMatrix k m0).bind fun r_1 => (if r_1 = true then (if (decide (m0.1 = p1)) = true then (if (decide (m0.2.1 = to3)) = true then some (decide (m0.2.2.1 = from2)) else some false) else some false) else some false)
def fe_impl_isBetween (k : Nat) : FE := ⟨(.pr (.st (.pr (.int .i64) (.pr (.int .i64) (.pr (.int .i64) (.sl 2 (.int .i64)))))) (.pr (.int .i64) (.pr (.int .i64) (.int .i64)))), 1, .bool, fun x => impl_isBetween k x.1 x.2.1 x.2.2.1 x.2.2.2⟩
theorem ok_impl_isBetween (k : Nat) : FnOK Tryz.prog 63 (fe_impl_isBetween k) := by
  refine closed_ok (tab := [(26, fe_impl_ValidMatrix k)]) (l := []) ti_ok ti_ht mix (List.forall_mem_cons.2 ⟨ok_impl_ValidMatrix k, (List.forall_mem_nil _)⟩) (List.forall_mem_nil _) ⟨⟨Tryz.f63, (codeOf Tryz.f63), [.tmp 8], (LOn Bool), by kernel_rfl, by kernel_rfl, by kernel_rfl, by kernel_rfl, rfl, by decide, ⟨by kernel_rfl, ?_, ?_⟩, ?_⟩⟩
  · exact no_loops (by kernel_rfl)
  · exact no_cuts (by kernel_rfl)
  · rintro ⟨m0, p1, from2, to3⟩
    kernel_rfl
/- 24 loop.example/g01005/impl.ValidSheaf -/
def impl_ValidSheaf_l0 (k : Nat) : Nat → Int → Int → (List (Int × Int × Int)) → (List (List Int) × Int × List Int × List (Int × Int × Int × List Int)) → ((List (Int × Int × Int)) → (List (List Int) × Int × List Int × List (Int × Int × Int × List Int)) → Option Bool) → Option Bool
  | 0, _, _, _, _, _ => none
  | n + 1, x28, x29, q_5, v_1, e_0 => (if (decide (x29 < x28)) = true then (if 0 ≤ x29 ∧ x29.toNat < List.length q_5 then (q_5[x29.toNat]?).bind fun y_6 => (if (decide ((List.length v_1.2.2.2 : Int) ≤ x29)) = true then some false else (if 0 ≤ x29 then (v_1.2.2.2[x29.toNat]?).bind fun y_7 => (if 0 ≤ y_6.2.2 then (v_1.2.2.1[y_6.2.2.toNat]?).bind fun y_8 => (if 0 ≤ y_6.1 then (v_1.2.2.1[y_6.1.toNat]?).bind fun y_9 => (impl_isBetween k y_7 v_1.2.1 y_8 y_9).bind fun r_10 => (if (!r_10) = true then some false else impl_ValidSheaf_l0 k n x28 (w_i64 (x29 + 1)) q_5 v_1 e_0) else none) else none) else none)) else none) else e_0 q_5 v_1)
def impl_ValidSheaf (k : Nat) (s0 : List (List Int) × Int × List Int × List (Int × Int × Int × List Int)) : Option Bool := (impl_ValidComplex k s0.1).bind fun r_1 => (if (!r_1) = true then some false else (impl_ValidPrime k s0.2.1).bind fun r_2 => (if (!r_2) = true then some false else (impl_areStalks k s0.1 s0.2.2.1).bind fun r_3 => (if (!r_3) = true then some false else (impl_arrows k s0.1).bind fun r_4 => impl_ValidSheaf_l0 k k (List.length r_4 : Int) 0 r_4 s0 (fun q_11 v_12 => some (decide ((List.length q_11 : Int) = (List.length v_12.2.2.2 : Int)))))))
def impl_ValidSheaf_l0_h : Head := ⟨[(1, (.bp 1 [] 0)), (3, (.ref 64000000 [])), (27, (.ref 64000000 [])), (28, (.val (.int .i64))), (29, (.val (.int .i64)))], [(64000000, 125, (.st (.pr (.int .i64) (.pr (.int .i64) (.int .i64)))), false)], [(1, 45, (.val (.st (.pr (.st (.sl 25 (.sl 2 (.int .i64)))) (.pr (.int .i64) (.pr (.sl 2 (.int .i64)) (.sl 49 (.st (.pr (.int .i64) (.pr (.int .i64) (.pr (.int .i64) (.sl 2 (.int .i64)))))))))))))]⟩
def impl_ValidSheaf_l0_x0 : Head := ⟨[(1, (.bp 1 [] 0)), (3, (.ref 64000000 []))], [(64000000, 125, (.st (.pr (.int .i64) (.pr (.int .i64) (.int .i64)))), false)], [(1, 45, (.val (.st (.pr (.st (.sl 25 (.sl 2 (.int .i64)))) (.pr (.int .i64) (.pr (.sl 2 (.int .i64)) (.sl 49 (.st (.pr (.int .i64) (.pr (.int .i64) (.pr (.int .i64) (.sl 2 (.int .i64)))))))))))))]⟩
def impl_ValidSheaf_l0_F (k n : Nat) (x : impl_ValidSheaf_l0_h.T) (kx : Nat → St → Option Bool) : Option Bool := impl_ValidSheaf_l0 k n x.1.2.2.2.1 x.1.2.2.2.2.1 x.2.1.1 x.2.2.1 (fun (q_11 : List (Int × Int × Int)) (v_1 : List (List Int) × Int × List Int × List (Int × Int × Int × List Int)) => kx 0 (impl_ValidSheaf_l0_x0.fill (((), (), ()), (q_11, ()), (v_1, ()))))
def impl_ValidSheaf_O (k : Nat) : Oracles Bool := ⟨fun n => bif Nat.beq n 5 then some (fun σ kx => impl_ValidSheaf_l0_h.get σ fun x => impl_ValidSheaf_l0_F k k x kx) else none, fun _ => none⟩
def fe_impl_ValidSheaf (k : Nat) : FE := ⟨(.st (.pr (.st (.sl 25 (.sl 2 (.int .i64)))) (.pr (.int .i64) (.pr (.sl 2 (.int .i64)) (.sl 49 (.st (.pr (.int .i64) (.pr (.int .i64) (.pr (.int .i64) (.sl 2 (.int .i64))))))))))), 1, .bool, fun x => impl_ValidSheaf k x⟩
theorem impl_ValidSheaf_l0_ok (k : Nat) : LoopOK (mkEnv ti [(59, fe_impl_ValidComplex k), (60, fe_impl_ValidPrime k), (61, fe_impl_areStalks k), (62, fe_impl_arrows k), (63, fe_impl_isBetween k)] (lk []) pins0 pinB0) (impl_ValidSheaf_O k) (rdC (mkEnv ti [(59, fe_impl_ValidComplex k), (60, fe_impl_ValidPrime k), (61, fe_impl_areStalks k), (62, fe_impl_arrows k), (63, fe_impl_isBetween k)] (lk []) pins0 pinB0) [.tmp 2] .bool) ((loopsOf (codeOf Tryz.f24)).getD 0 .skip) (fun σ kx => impl_ValidSheaf_l0_h.get σ fun x => impl_ValidSheaf_l0_F k k x kx) := by
  refine ⟨impl_ValidSheaf_l0_h, [(0, impl_ValidSheaf_l0_x0)], fun n x kx => impl_ValidSheaf_l0_F k n x kx, k, by kernel_rfl, by kernel_rfl, fun x kx => by kernel_rfl, ?_, fun σ kx => rfl⟩
  rintro n ⟨⟨⟨⟩, ⟨⟩, ⟨⟩, x28, x29, ⟨⟩⟩, ⟨q_5, ⟨⟩⟩, ⟨v_1, ⟨⟩⟩⟩ kx
  kernel_rfl
theorem ok_impl_ValidSheaf (k : Nat) : FnOK Tryz.prog 24 (fe_impl_ValidSheaf k) := by
  refine closed_ok (tab := [(59, fe_impl_ValidComplex k), (60, fe_impl_ValidPrime k), (61, fe_impl_areStalks k), (62, fe_impl_arrows k), (63, fe_impl_isBetween k)]) (l := []) ti_ok ti_ht mix (List.forall_mem_cons.2 ⟨ok_impl_ValidComplex k, (List.forall_mem_cons.2 ⟨ok_impl_ValidPrime k, (List.forall_mem_cons.2 ⟨ok_impl_areStalks k, (List.forall_mem_cons.2 ⟨ok_impl_arrows k, (List.forall_mem_cons.2 ⟨ok_impl_isBetween k, (List.forall_mem_nil _)⟩)⟩)⟩)⟩)⟩) (List.forall_mem_nil _) ⟨⟨Tryz.f24, (codeOf Tryz.f24), [.tmp 2], (impl_ValidSheaf_O k), by kernel_rfl, by kernel_rfl, by kernel_rfl, by kernel_rfl, rfl, by decide, ⟨by kernel_rfl, ?_, ?_⟩, ?_⟩⟩
  · refine loops_of (n := 1) (by kernel_rfl) fun i hi => ?_
    match i, hi with
    | 0, _ => exact loop_of (by kernel_rfl) (impl_ValidSheaf_l0_ok k)
    | n + 1, hi => omega
  · exact no_cuts (by kernel_rfl)
  · rintro s0
    kernel_rfl
/- 65 loop.example/g01005/impl.compareEdges -/
def impl_compareEdges (k : Nat) (a0 : Int × Int × Int) (b1 : Int × Int × Int) : Option Int := (cmp_Compare_int64 a0.1 b1.1).bind fun r_1 => (cmp_Compare_int64 a0.2.1 b1.2.1).bind fun r_2 => (cmp_Or_int k [r_1, r_2]).bind fun r_3 => some r_3
def fe_impl_compareEdges (k : Nat) : FE := ⟨(.pr (.st (.pr (.int .i64) (.pr (.int .i64) (.int .i64)))) (.st (.pr (.int .i64) (.pr (.int .i64) (.int .i64))))), 1, (.int .i64), fun x => impl_compareEdges k x.1 x.2⟩
theorem ok_impl_compareEdges (k : Nat) : FnOK Tryz.prog 65 (fe_impl_compareEdges k) := by
  refine closed_ok (tab := [(118, fe_cmp_Compare_int64), (117, fe_cmp_Or_int k)]) (l := []) ti_ok ti_ht mix (List.forall_mem_cons.2 ⟨ok_cmp_Compare_int64, (List.forall_mem_cons.2 ⟨ok_cmp_Or_int k, (List.forall_mem_nil _)⟩)⟩) (List.forall_mem_nil _) ⟨⟨Tryz.f65, (codeOf Tryz.f65), [.tmp 4], (LOn Int), by kernel_rfl, by kernel_rfl, by kernel_rfl, by kernel_rfl, rfl, by decide, ⟨by kernel_rfl, ?_, ?_⟩, ?_⟩⟩
  · exact no_loops (by kernel_rfl)
  · exact no_cuts (by kernel_rfl)
  · rintro ⟨a0, b1⟩
    kernel_rfl
/- 25 loop.example/g01005/impl.ValidGraph -/
def impl_ValidGraph_l0 (k : Nat) : Nat → (List (Int × Int × Int)) → Int → Int → (Int × List (Int × Int × Int)) → ((Int × List (Int × Int × Int)) → Option Bool) → Option Bool
  | 0, _, _, _, _, _ => none
  | n + 1, x6, x7, x8, v_1, e_0 => (if (decide (x8 < x7)) = true then (if 0 ≤ x8 then (x6[x8.toNat]?).bind fun y_1 => (if (decide (y_1.1 < 0)) = true then some false else (if (decide (y_1.2.1 ≤ y_1.1)) = true then some false else (if (decide (v_1.1 ≤ y_1.2.1)) = true then some false else (impl_within y_1.2.2 1 9).bind fun r_2 => (if (!r_2) = true then some false else (if (decide (0 < x8)) = true then (if 0 ≤ (w_i64 (x8 - 1)) then (v_1.2[(w_i64 (x8 - 1)).toNat]?).bind fun y_3 => (impl_compareEdges k y_3 y_1).bind fun r_4 => (if (decide (0 ≤ r_4)) = true then some false else impl_ValidGraph_l0 k n x6 x7 (w_i64 (x8 + 1)) v_1 e_0) else none) else impl_ValidGraph_l0 k n x6 x7 (w_i64 (x8 + 1)) v_1 e_0))))) else none) else e_0 v_1)
def impl_ValidGraph (k : Nat) (g0 : Int × List (Int × Int × Int)) : Option Bool := impl_ValidGraph_l0 k k g0.2 (List.length g0.2 : Int) 0 g0 (fun v_5 => (impl_within v_5.1 1 12).bind fun r_6 => (if r_6 = true then some (decide ((List.length v_5.2 : Int) ≤ 24)) else some false))
def impl_ValidGraph_l0_h : Head := ⟨[(1, (.bp 1 [] 0)), (6, (.val (.sl 128 (.st (.pr (.int .i64) (.pr (.int .i64) (.int .i64))))))), (7, (.val (.int .i64))), (8, (.val (.int .i64)))], [], [(1, 48, (.val (.st (.pr (.int .i64) (.sl 128 (.st (.pr (.int .i64) (.pr (.int .i64) (.int .i64)))))))))]⟩
def impl_ValidGraph_l0_x0 : Head := ⟨[(1, (.bp 1 [] 0))], [], [(1, 48, (.val (.st (.pr (.int .i64) (.sl 128 (.st (.pr (.int .i64) (.pr (.int .i64) (.int .i64)))))))))]⟩
def impl_ValidGraph_l0_F (k n : Nat) (x : impl_ValidGraph_l0_h.T) (kx : Nat → St → Option Bool) : Option Bool := impl_ValidGraph_l0 k n x.1.2.1 x.1.2.2.1 x.1.2.2.2.1 x.2.2.1 (fun (v_1 : Int × List (Int × Int × Int)) => kx 0 (impl_ValidGraph_l0_x0.fill (((), ()), (), (v_1, ()))))
def impl_ValidGraph_O (k : Nat) : Oracles Bool := ⟨fun n => bif Nat.beq n 2 then some (fun σ kx => impl_ValidGraph_l0_h.get σ fun x => impl_ValidGraph_l0_F k k x kx) else none, fun _ => none⟩
def fe_impl_ValidGraph (k : Nat) : FE := ⟨(.st (.pr (.int .i64) (.sl 128 (.st (.pr (.int .i64) (.pr (.int .i64) (.int .i64))))))), 1, .bool, fun x => impl_ValidGraph k x⟩
theorem impl_ValidGraph_l0_ok (k : Nat) : LoopOK (mkEnv ti [(64, fe_impl_within), (65, fe_impl_compareEdges k)] (lk []) pins0 pinB0) (impl_ValidGraph_O k) (rdC (mkEnv ti [(64, fe_impl_within), (65, fe_impl_compareEdges k)] (lk []) pins0 pinB0) [.tmp 2] .bool) ((loopsOf (codeOf Tryz.f25)).getD 0 .skip) (fun σ kx => impl_ValidGraph_l0_h.get σ fun x => impl_ValidGraph_l0_F k k x kx) := by
  refine ⟨impl_ValidGraph_l0_h, [(0, impl_ValidGraph_l0_x0)], fun n x kx => impl_ValidGraph_l0_F k n x kx, k, by kernel_rfl, by kernel_rfl, fun x kx => by kernel_rfl, ?_, fun σ kx => rfl⟩
  rintro n ⟨⟨⟨⟩, x6, x7, x8, ⟨⟩⟩, ⟨⟩, ⟨v_1, ⟨⟩⟩⟩ kx
  kernel_rfl
theorem ok_impl_ValidGraph (k : Nat) : FnOK Tryz.prog 25 (fe_impl_ValidGraph k) := by
  refine closed_ok (tab := [(64, fe_impl_within), (65, fe_impl_compareEdges k)]) (l := []) ti_ok ti_ht mix (List.forall_mem_cons.2 ⟨ok_impl_within, (List.forall_mem_cons.2 ⟨ok_impl_compareEdges k, (List.forall_mem_nil _)⟩)⟩) (List.forall_mem_nil _) ⟨⟨Tryz.f25, (codeOf Tryz.f25), [.tmp 2], (impl_ValidGraph_O k), by kernel_rfl, by kernel_rfl, by kernel_rfl, by kernel_rfl, rfl, by decide, ⟨by kernel_rfl, ?_, ?_⟩, ?_⟩⟩
  · refine loops_of (n := 1) (by kernel_rfl) fun i hi => ?_
    match i, hi with
    | 0, _ => exact loop_of (by kernel_rfl) (impl_ValidGraph_l0_ok k)
    | n + 1, hi => omega
  · exact no_cuts (by kernel_rfl)
  · rintro g0
    kernel_rfl
/- 71 loop.example/g01005/impl.ValidTable -/
def impl_ValidTable_l0 (k : Nat) : Nat → (List (List Int)) → Int → Int → (List Int × List (List Int)) → (Option Bool) → Option Bool
  | 0, _, _, _, _, _ => none
  | n + 1, x22, x23, x24, v_1, e_0 => (if (decide (x24 < x23)) = true then (if 0 ≤ x24 then (x22[x24.toNat]?).bind fun y_3 => (if (!(decide ((List.length y_3 : Int) = (List.length v_1.1 : Int)))) = true then some false else (impl_areElements k y_3 4).bind fun r_4 => (if (!r_4) = true then some false else (if (decide (0 < x24)) = true then (if 0 ≤ (w_i64 (x24 - 1)) then (v_1.2[(w_i64 (x24 - 1)).toNat]?).bind fun y_5 => (slices_Compare_int64 k y_5 y_3).bind fun r_6 => (if (decide (0 ≤ r_6)) = true then some false else impl_ValidTable_l0 k n x22 x23 (w_i64 (x24 + 1)) v_1 e_0) else none) else impl_ValidTable_l0 k n x22 x23 (w_i64 (x24 + 1)) v_1 e_0))) else none) else e_0)
def impl_ValidTable (k : Nat) (t0 : List Int × List (List Int)) : Option Bool := (impl_isRising k t0.1).bind fun r_1 => (if (!r_1) = true then some false else (impl_areElements k t0.1 8).bind fun r_2 => (if (!r_2) = true then some false else (if (decide (24 < (List.length t0.2 : Int))) = true then some false else impl_ValidTable_l0 k k t0.2 (List.length t0.2 : Int) 0 t0 (some true))))
def impl_ValidTable_l0_h : Head := ⟨[(1, (.bp 1 [] 0)), (22, (.val (.sl 25 (.sl 2 (.int .i64))))), (23, (.val (.int .i64))), (24, (.val (.int .i64)))], [], [(1, 115, (.val (.st (.pr (.sl 2 (.int .i64)) (.sl 25 (.sl 2 (.int .i64)))))))]⟩
def impl_ValidTable_l0_x0 : Head := ⟨[], [], []⟩
def impl_ValidTable_l0_F (k n : Nat) (x : impl_ValidTable_l0_h.T) (kx : Nat → St → Option Bool) : Option Bool := impl_ValidTable_l0 k n x.1.2.1 x.1.2.2.1 x.1.2.2.2.1 x.2.2.1 (kx 0 (impl_ValidTable_l0_x0.fill ((), (), ())))
def impl_ValidTable_O (k : Nat) : Oracles Bool := ⟨fun n => bif Nat.beq n 4 then some (fun σ kx => impl_ValidTable_l0_h.get σ fun x => impl_ValidTable_l0_F k k x kx) else none, fun _ => none⟩
def fe_impl_ValidTable (k : Nat) : FE := ⟨(.st (.pr (.sl 2 (.int .i64)) (.sl 25 (.sl 2 (.int .i64))))), 1, .bool, fun x => impl_ValidTable k x⟩
theorem impl_ValidTable_l0_ok (k : Nat) : LoopOK (mkEnv ti [(122, fe_impl_isRising k), (68, fe_impl_areElements k), (123, fe_slices_Compare_int64 k)] (lk []) pins0 pinB0) (impl_ValidTable_O k) (rdC (mkEnv ti [(122, fe_impl_isRising k), (68, fe_impl_areElements k), (123, fe_slices_Compare_int64 k)] (lk []) pins0 pinB0) [.tmp 2] .bool) ((loopsOf (codeOf Tryz.f71)).getD 0 .skip) (fun σ kx => impl_ValidTable_l0_h.get σ fun x => impl_ValidTable_l0_F k k x kx) := by
  refine ⟨impl_ValidTable_l0_h, [(0, impl_ValidTable_l0_x0)], fun n x kx => impl_ValidTable_l0_F k n x kx, k, by kernel_rfl, by kernel_rfl, fun x kx => by kernel_rfl, ?_, fun σ kx => rfl⟩
  rintro n ⟨⟨⟨⟩, x22, x23, x24, ⟨⟩⟩, ⟨⟩, ⟨v_1, ⟨⟩⟩⟩ kx
  kernel_rfl
theorem ok_impl_ValidTable (k : Nat) : FnOK Tryz.prog 71 (fe_impl_ValidTable k) := by
  refine closed_ok (tab := [(122, fe_impl_isRising k), (68, fe_impl_areElements k), (123, fe_slices_Compare_int64 k)]) (l := []) ti_ok ti_ht mix (List.forall_mem_cons.2 ⟨ok_impl_isRising k, (List.forall_mem_cons.2 ⟨ok_impl_areElements k, (List.forall_mem_cons.2 ⟨ok_slices_Compare_int64 k, (List.forall_mem_nil _)⟩)⟩)⟩) (List.forall_mem_nil _) ⟨⟨Tryz.f71, (codeOf Tryz.f71), [.tmp 2], (impl_ValidTable_O k), by kernel_rfl, by kernel_rfl, by kernel_rfl, by kernel_rfl, rfl, by decide, ⟨by kernel_rfl, ?_, ?_⟩, ?_⟩⟩
  · refine loops_of (n := 1) (by kernel_rfl) fun i hi => ?_
    match i, hi with
    | 0, _ => exact loop_of (by kernel_rfl) (impl_ValidTable_l0_ok k)
    | n + 1, hi => omega
  · exact no_cuts (by kernel_rfl)
  · rintro t0
    kernel_rfl
/- 70 loop.example/g01005/impl.ValidTables$1 -/
def impl_ValidTables_1 (k : Nat) (t0 : List Int × List (List Int)) : Option Bool := (impl_ValidTable k t0).bind fun r_1 => some (!r_1)
def fe_impl_ValidTables_1 (k : Nat) : FE := ⟨(.st (.pr (.sl 2 (.int .i64)) (.sl 25 (.sl 2 (.int .i64))))), 1, .bool, fun x => impl_ValidTables_1 k x⟩
theorem ok_impl_ValidTables_1 (k : Nat) : FnOK Tryz.prog 70 (fe_impl_ValidTables_1 k) := by
  refine closed_ok (tab := [(71, fe_impl_ValidTable k)]) (l := []) ti_ok ti_ht mix (List.forall_mem_cons.2 ⟨ok_impl_ValidTable k, (List.forall_mem_nil _)⟩) (List.forall_mem_nil _) ⟨⟨Tryz.f70, (codeOf Tryz.f70), [.tmp 2], (LOn Bool), by kernel_rfl, by kernel_rfl, by kernel_rfl, by kernel_rfl, rfl, by decide, ⟨by kernel_rfl, ?_, ?_⟩, ?_⟩⟩
  · exact no_loops (by kernel_rfl)
  · exact no_cuts (by kernel_rfl)
  · rintro t0
    kernel_rfl
/- 121 slices.IndexFunc[[]loop.example/g01005/impl.Table,loop.example/g01005/impl.Table] -/
def slices_IndexFunc_impl_Table__impl_ValidTables_1_l0 (k : Nat) : Nat → (List (List Int × List (List Int))) → Unit → Int → Int → (Option Int) → Option Int
  | 0, _, _, _, _, _ => none
  | n + 1, s0, f1, x7, x8, e_0 => (if (decide (x8 < x7)) = true then (if 0 ≤ x8 then (s0[x8.toNat]?).bind fun y_1 => (impl_ValidTables_1 k y_1).bind fun r_2 => (if r_2 = true then some x8 else slices_IndexFunc_impl_Table__impl_ValidTables_1_l0 k n s0 f1 x7 (w_i64 (x8 + 1)) e_0) else none) else e_0)
def slices_IndexFunc_impl_Table__impl_ValidTables_1 (k : Nat) (s0 : List (List Int × List (List Int))) (f1 : Unit) : Option Int := slices_IndexFunc_impl_Table__impl_ValidTables_1_l0 k k s0 f1 (List.length s0 : Int) 0 (some (-1))
def slices_IndexFunc_impl_Table__impl_ValidTables_1_l0_h : Head := ⟨[(0, (.val (.sl 115 (.st (.pr (.sl 2 (.int .i64)) (.sl 25 (.sl 2 (.int .i64)))))))), (1, (.val (.fn 70 .un))), (7, (.val (.int .i64))), (8, (.val (.int .i64)))], [], []⟩
def slices_IndexFunc_impl_Table__impl_ValidTables_1_l0_x0 : Head := ⟨[], [], []⟩
def slices_IndexFunc_impl_Table__impl_ValidTables_1_l0_F (k n : Nat) (x : slices_IndexFunc_impl_Table__impl_ValidTables_1_l0_h.T) (kx : Nat → St → Option Int) : Option Int := slices_IndexFunc_impl_Table__impl_ValidTables_1_l0 k n x.1.1 x.1.2.1 x.1.2.2.1 x.1.2.2.2.1 (kx 0 (slices_IndexFunc_impl_Table__impl_ValidTables_1_l0_x0.fill ((), (), ())))
def slices_IndexFunc_impl_Table__impl_ValidTables_1_O (k : Nat) : Oracles Int := ⟨fun n => bif Nat.beq n 2 then some (fun σ kx => slices_IndexFunc_impl_Table__impl_ValidTables_1_l0_h.get σ fun x => slices_IndexFunc_impl_Table__impl_ValidTables_1_l0_F k k x kx) else none, fun _ => none⟩
def fe_slices_IndexFunc_impl_Table__impl_ValidTables_1 (k : Nat) : FE := ⟨(.pr (.sl 115 (.st (.pr (.sl 2 (.int .i64)) (.sl 25 (.sl 2 (.int .i64)))))) (.fn 70 .un)), 1, (.int .i64), fun x => slices_IndexFunc_impl_Table__impl_ValidTables_1 k x.1 x.2⟩
theorem slices_IndexFunc_impl_Table__impl_ValidTables_1_l0_ok (k : Nat) : LoopOK (mkEnv ti [(70, fe_impl_ValidTables_1 k)] (lk []) pins0 pinB0) (slices_IndexFunc_impl_Table__impl_ValidTables_1_O k) (rdC (mkEnv ti [(70, fe_impl_ValidTables_1 k)] (lk []) pins0 pinB0) [.tmp 4] (.int .i64)) ((loopsOf (codeOf Tryz.f121)).getD 0 .skip) (fun σ kx => slices_IndexFunc_impl_Table__impl_ValidTables_1_l0_h.get σ fun x => slices_IndexFunc_impl_Table__impl_ValidTables_1_l0_F k k x kx) := by
  refine ⟨slices_IndexFunc_impl_Table__impl_ValidTables_1_l0_h, [(0, slices_IndexFunc_impl_Table__impl_ValidTables_1_l0_x0)], fun n x kx => slices_IndexFunc_impl_Table__impl_ValidTables_1_l0_F k n x kx, k, by kernel_rfl, by kernel_rfl, fun x kx => by kernel_rfl, ?_, fun σ kx => rfl⟩
  rintro n ⟨⟨s0, f1, x7, x8, ⟨⟩⟩, ⟨⟩, ⟨⟩⟩ kx
  kernel_rfl
theorem ok_slices_IndexFunc_impl_Table__impl_ValidTables_1 (k : Nat) : FnOK Tryz.prog 121 (fe_slices_IndexFunc_impl_Table__impl_ValidTables_1 k) := by
  refine closed_ok (tab := [(70, fe_impl_ValidTables_1 k)]) (l := []) ti_ok ti_ht mix (List.forall_mem_cons.2 ⟨ok_impl_ValidTables_1 k, (List.forall_mem_nil _)⟩) (List.forall_mem_nil _) ⟨⟨Tryz.f121, (codeOf Tryz.f121), [.tmp 4], (slices_IndexFunc_impl_Table__impl_ValidTables_1_O k), by kernel_rfl, by kernel_rfl, by kernel_rfl, by kernel_rfl, rfl, by decide, ⟨by kernel_rfl, ?_, ?_⟩, ?_⟩⟩
  · refine loops_of (n := 1) (by kernel_rfl) fun i hi => ?_
    match i, hi with
    | 0, _ => exact loop_of (by kernel_rfl) (slices_IndexFunc_impl_Table__impl_ValidTables_1_l0_ok k)
    | n + 1, hi => omega
  · exact no_cuts (by kernel_rfl)
  · rintro ⟨s0, f1⟩
    kernel_rfl
/- 69 slices.ContainsFunc[[]loop.example/g01005/impl.Table,loop.example/g01005/impl.Table] -/
def slices_ContainsFunc_impl_Table__impl_ValidTables_1 (k : Nat) (s0 : List (List Int × List (List Int))) (f1 : Unit) : Option Bool := (slices_IndexFunc_impl_Table__impl_ValidTables_1 k s0 f1).bind fun r_1 => some (decide (0 ≤ r_1))
def fe_slices_ContainsFunc_impl_Table__impl_ValidTables_1 (k : Nat) : FE := ⟨(.pr (.sl 115 (.st (.pr (.sl 2 (.int .i64)) (.sl 25 (.sl 2 (.int .i64)))))) (.fn 70 .un)), 1, .bool, fun x => slices_ContainsFunc_impl_Table__impl_ValidTables_1 k x.1 x.2⟩
theorem ok_slices_ContainsFunc_impl_Table__impl_ValidTables_1 (k : Nat) : FnOK Tryz.prog 69 (fe_slices_ContainsFunc_impl_Table__impl_ValidTables_1 k) := by
  refine closed_ok (tab := [(121, fe_slices_IndexFunc_impl_Table__impl_ValidTables_1 k)]) (l := []) ti_ok ti_ht mix (List.forall_mem_cons.2 ⟨ok_slices_IndexFunc_impl_Table__impl_ValidTables_1 k, (List.forall_mem_nil _)⟩) (List.forall_mem_nil _) ⟨⟨Tryz.f69, (codeOf Tryz.f69), [.tmp 4], (LOn Bool), by kernel_rfl, by kernel_rfl, by kernel_rfl, by kernel_rfl, rfl, by decide, ⟨by kernel_rfl, ?_, ?_⟩, ?_⟩⟩
  · exact no_loops (by kernel_rfl)
  · exact no_cuts (by kernel_rfl)
  · rintro ⟨s0, f1⟩
    kernel_rfl
/- 27 loop.example/g01005/impl.ValidTables -/
def impl_ValidTables (k : Nat) (list0 : List (List Int × List (List Int))) : Option Bool := (if (decide ((List.length list0 : Int) ≤ 6)) = true then (slices_ContainsFunc_impl_Table__impl_ValidTables_1 k list0 ()).bind fun r_1 => some (!r_1) else some false)
def fe_impl_ValidTables (k : Nat) : FE := ⟨(.sl 115 (.st (.pr (.sl 2 (.int .i64)) (.sl 25 (.sl 2 (.int .i64)))))), 1, .bool, fun x => impl_ValidTables k x⟩
theorem ok_impl_ValidTables (k : Nat) : FnOK Tryz.prog 27 (fe_impl_ValidTables k) := by
  refine closed_ok (tab := [(69, fe_slices_ContainsFunc_impl_Table__impl_ValidTables_1 k)]) (l := []) ti_ok ti_ht mix (List.forall_mem_cons.2 ⟨ok_slices_ContainsFunc_impl_Table__impl_ValidTables_1 k, (List.forall_mem_nil _)⟩) (List.forall_mem_nil _) ⟨⟨Tryz.f27, (codeOf Tryz.f27), [.tmp 2], (LOn Bool), by kernel_rfl, by kernel_rfl, by kernel_rfl, by kernel_rfl, rfl, by decide, ⟨by kernel_rfl, ?_, ?_⟩, ?_⟩⟩
  · exact no_loops (by kernel_rfl)
  · exact no_cuts (by kernel_rfl)
  · rintro list0
    kernel_rfl
end
end Go.Proofs.YtmmkijdfiaaobaaGreat.Ev
