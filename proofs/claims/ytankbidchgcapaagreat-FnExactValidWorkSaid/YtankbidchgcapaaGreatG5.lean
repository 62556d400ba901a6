/- Functions of the program, as plain ones. No conditions. -/
import Derived.Test.YtankbidchgcapaaGreatG4
import Derived.KernelRfl
set_option linter.unusedVariables false
set_option maxRecDepth 100000
namespace Go.Proofs.YtankbidchgcapaaGreat.Ev
open Go.RowKit
noncomputable section
/- 80 slices.ContainsFunc[[]int64,int64] -/
def slices_ContainsFunc_int64__impl_areStalks_1 (k : Nat) (s0 : List Int) (f1 : Unit) : Option Bool := (slices_IndexFunc_int64__impl_areStalks_1 k s0 f1).bind fun r_1 => some (decide (0 ≤ r_1))
def fe_slices_ContainsFunc_int64__impl_areStalks_1 (k : Nat) : FE := ⟨(.pr (.sl 2 (.int .i64)) (.fn 81 .un)), 1, .bool, fun x => slices_ContainsFunc_int64__impl_areStalks_1 k x.1 x.2⟩
theorem ok_slices_ContainsFunc_int64__impl_areStalks_1 (k : Nat) : FnOK Tryz.prog 80 (fe_slices_ContainsFunc_int64__impl_areStalks_1 k) := by
  refine closed_ok (tab := [(106, fe_slices_IndexFunc_int64__impl_areStalks_1 k)]) (l := []) ti_ok ti_ht mix (List.forall_mem_cons.2 ⟨ok_slices_IndexFunc_int64__impl_areStalks_1 k, (List.forall_mem_nil _)⟩) (List.forall_mem_nil _) ⟨⟨Tryz.f80, (codeOf Tryz.f80), [.tmp 4], (LOn Bool), by kernel_rfl, by kernel_rfl, by kernel_rfl, by kernel_rfl, rfl, by decide, ⟨by kernel_rfl, ?_, ?_⟩, ?_⟩⟩
  · exact no_loops (by kernel_rfl)
  · exact no_cuts (by kernel_rfl)
  · rintro ⟨s0, f1⟩
    kernel_rfl
/- 53 loop.example/g01005/impl.size[int64] -/
def impl_size_int64 (list0 : List Int) : Option Int := some (List.length list0 : Int)
def fe_impl_size_int64 : FE := ⟨(.sl 2 (.int .i64)), 1, (.int .i64), fun x => impl_size_int64 x⟩
theorem ok_impl_size_int64 : FnOK Tryz.prog 53 (fe_impl_size_int64) := by
  refine closed_ok (tab := []) (l := []) ti_ok ti_ht mix (List.forall_mem_nil _) (List.forall_mem_nil _) ⟨⟨Tryz.f53, (codeOf Tryz.f53), [.tmp 2], (LOn Int), by kernel_rfl, by kernel_rfl, by kernel_rfl, by kernel_rfl, rfl, by decide, ⟨by kernel_rfl, ?_, ?_⟩, ?_⟩⟩
  · exact no_loops (by kernel_rfl)
  · exact no_cuts (by kernel_rfl)
  · rintro list0
    kernel_rfl
/- 55 loop.example/g01005/impl.simplicesOf -/
def impl_simplicesOf_l0 (k : Nat) : Nat → Int → (List (List Int)) → Int → Int → (List Int) → ((List Int) → Option (List Int)) → Option (List Int)
  | 0, _, _, _, _, _, _ => none
  | n + 1, dimension1, x9, x10, x11, q_1, e_0 => (if (decide (x11 < x10)) = true then (if 0 ≤ x11 then (x9[x11.toNat]?).bind fun y_2 => (impl_size_int64 y_2).bind fun r_3 => (if (decide (r_3 = (w_i64 (dimension1 + 1)))) = true then (if (q_1.length + [x11].length) * 8 ≤ LIM then impl_simplicesOf_l0 k n dimension1 x9 x10 (w_i64 (x11 + 1)) (q_1 ++ [x11]) e_0 else none) else impl_simplicesOf_l0 k n dimension1 x9 x10 (w_i64 (x11 + 1)) q_1 e_0) else none) else e_0 q_1)
def impl_simplicesOf (k : Nat) (c0 : List (List Int)) (dimension1 : Int) : Option (List Int) := impl_simplicesOf_l0 k k dimension1 c0 (List.length c0 : Int) 0 [] (fun q_4 => some q_4)
def impl_simplicesOf_l0_h : Head := ⟨[(1, (.val (.int .i64))), (5, (.ref 64000000 [])), (9, (.val (.sl 25 (.sl 2 (.int .i64))))), (10, (.val (.int .i64))), (11, (.val (.int .i64)))], [(64000000, 2, (.int .i64), false)], []⟩
def impl_simplicesOf_l0_x0 : Head := ⟨[(5, (.ref 64000000 []))], [(64000000, 2, (.int .i64), false)], []⟩
def impl_simplicesOf_l0_F (k n : Nat) (x : impl_simplicesOf_l0_h.T) (kx : Nat → St → Option (List Int)) : Option (List Int) := impl_simplicesOf_l0 k n x.1.1 x.1.2.2.1 x.1.2.2.2.1 x.1.2.2.2.2.1 x.2.1.1 (fun (q_4 : List Int) => kx 0 (impl_simplicesOf_l0_x0.fill (((), ()), (q_4, ()), ())))
def impl_simplicesOf_O (k : Nat) : Oracles (List Int) := ⟨fun n => bif Nat.beq n 3 then some (fun σ kx => impl_simplicesOf_l0_h.get σ fun x => impl_simplicesOf_l0_F k k x kx) else none, fun _ => none⟩
def fe_impl_simplicesOf (k : Nat) : FE := ⟨(.pr (.st (.sl 25 (.sl 2 (.int .i64)))) (.int .i64)), 1, (.sl 2 (.int .i64)), fun x => impl_simplicesOf k x.1 x.2⟩
theorem impl_simplicesOf_l0_ok (k : Nat) : LoopOK (mkEnv ti [(53, fe_impl_size_int64)] (lk []) pins0 pinB0) (impl_simplicesOf_O k) (rdC (mkEnv ti [(53, fe_impl_size_int64)] (lk []) pins0 pinB0) [.tmp 4] (.sl 2 (.int .i64))) ((loopsOf (codeOf Tryz.f55)).getD 0 .skip) (fun σ kx => impl_simplicesOf_l0_h.get σ fun x => impl_simplicesOf_l0_F k k x kx) := by
  refine ⟨impl_simplicesOf_l0_h, [(0, impl_simplicesOf_l0_x0)], fun n x kx => impl_simplicesOf_l0_F k n x kx, k, by kernel_rfl, by kernel_rfl, fun x kx => by kernel_rfl, ?_, fun σ kx => rfl⟩
  rintro n ⟨⟨dimension1, ⟨⟩, x9, x10, x11, ⟨⟩⟩, ⟨q_1, ⟨⟩⟩, ⟨⟩⟩ kx
  kernel_rfl
theorem ok_impl_simplicesOf (k : Nat) : FnOK Tryz.prog 55 (fe_impl_simplicesOf k) := by
  refine closed_ok (tab := [(53, fe_impl_size_int64)]) (l := []) ti_ok ti_ht mix (List.forall_mem_cons.2 ⟨ok_impl_size_int64, (List.forall_mem_nil _)⟩) (List.forall_mem_nil _) ⟨⟨Tryz.f55, (codeOf Tryz.f55), [.tmp 4], (impl_simplicesOf_O k), by kernel_rfl, by kernel_rfl, by kernel_rfl, by kernel_rfl, rfl, by decide, ⟨by kernel_rfl, ?_, ?_⟩, ?_⟩⟩
  · refine loops_of (n := 1) (by kernel_rfl) fun i hi => ?_
    match i, hi with
    | 0, _ => exact loop_of (by kernel_rfl) (impl_simplicesOf_l0_ok k)
    | n + 1, hi => omega
  · exact no_cuts (by kernel_rfl)
  · rintro ⟨c0, dimension1⟩
    kernel_rfl
/- 23 loop.example/g01005/impl.stalkSum -/
def impl_stalkSum_l0 (k : Nat) : Nat → Int → Int → Int → (List Int) → (List (List Int) × Int × List Int × List (Int × Int × Int × List Int)) → (Int → Option Int) → Option Int
  | 0, _, _, _, _, _, _ => none
  | n + 1, sum5, x12, x13, q_2, v_2, e_0 => (if (decide (x13 < x12)) = true then (if 0 ≤ x13 ∧ x13.toNat < List.length q_2 then (q_2[x13.toNat]?).bind fun y_3 => (if 0 ≤ y_3 then (v_2.2.2.1[y_3.toNat]?).bind fun y_4 => impl_stalkSum_l0 k n (w_i64 (sum5 + y_4)) x12 (w_i64 (x13 + 1)) q_2 v_2 e_0 else none) else none) else e_0 sum5)
def impl_stalkSum (k : Nat) (s0 : List (List Int) × Int × List Int × List (Int × Int × Int × List Int)) (k1 : Int) : Option Int := (impl_simplicesOf k s0.1 k1).bind fun r_1 => impl_stalkSum_l0 k k 0 (List.length r_1 : Int) 0 r_1 s0 (fun sum_5 => some sum_5)
def impl_stalkSum_l0_h : Head := ⟨[(2, (.bp 2 [] 0)), (5, (.val (.int .i64))), (11, (.ref 64000000 [])), (12, (.val (.int .i64))), (13, (.val (.int .i64)))], [(64000000, 2, (.int .i64), false)], [(2, 42, (.val (.st (.pr (.st (.sl 25 (.sl 2 (.int .i64)))) (.pr (.int .i64) (.pr (.sl 2 (.int .i64)) (.sl 100 (.st (.pr (.int .i64) (.pr (.int .i64) (.pr (.int .i64) (.sl 2 (.int .i64)))))))))))))]⟩
def impl_stalkSum_l0_x0 : Head := ⟨[(5, (.val (.int .i64)))], [], []⟩
def impl_stalkSum_l0_F (k n : Nat) (x : impl_stalkSum_l0_h.T) (kx : Nat → St → Option Int) : Option Int := impl_stalkSum_l0 k n x.1.2.1 x.1.2.2.2.1 x.1.2.2.2.2.1 x.2.1.1 x.2.2.1 (fun (sum5 : Int) => kx 0 (impl_stalkSum_l0_x0.fill ((sum5, ()), (), ())))
def impl_stalkSum_O (k : Nat) : Oracles Int := ⟨fun n => bif Nat.beq n 3 then some (fun σ kx => impl_stalkSum_l0_h.get σ fun x => impl_stalkSum_l0_F k k x kx) else none, fun _ => none⟩
def fe_impl_stalkSum (k : Nat) : FE := ⟨(.pr (.st (.pr (.st (.sl 25 (.sl 2 (.int .i64)))) (.pr (.int .i64) (.pr (.sl 2 (.int .i64)) (.sl 100 (.st (.pr (.int .i64) (.pr (.int .i64) (.pr (.int .i64) (.sl 2 (.int .i64))))))))))) (.int .i64)), 1, (.int .i64), fun x => impl_stalkSum k x.1 x.2⟩
theorem impl_stalkSum_l0_ok (k : Nat) : LoopOK (mkEnv ti [(55, fe_impl_simplicesOf k)] (lk []) pins0 pinB0) (impl_stalkSum_O k) (rdC (mkEnv ti [(55, fe_impl_simplicesOf k)] (lk []) pins0 pinB0) [.tmp 4] (.int .i64)) ((loopsOf (codeOf Tryz.f23)).getD 0 .skip) (fun σ kx => impl_stalkSum_l0_h.get σ fun x => impl_stalkSum_l0_F k k x kx) := by
  refine ⟨impl_stalkSum_l0_h, [(0, impl_stalkSum_l0_x0)], fun n x kx => impl_stalkSum_l0_F k n x kx, k, by kernel_rfl, by kernel_rfl, fun x kx => by kernel_rfl, ?_, fun σ kx => rfl⟩
  rintro n ⟨⟨⟨⟩, sum5, ⟨⟩, x12, x13, ⟨⟩⟩, ⟨q_2, ⟨⟩⟩, ⟨v_2, ⟨⟩⟩⟩ kx
  kernel_rfl
theorem ok_impl_stalkSum (k : Nat) : FnOK Tryz.prog 23 (fe_impl_stalkSum k) := by
  refine closed_ok (tab := [(55, fe_impl_simplicesOf k)]) (l := []) ti_ok ti_ht mix (List.forall_mem_cons.2 ⟨ok_impl_simplicesOf k, (List.forall_mem_nil _)⟩) (List.forall_mem_nil _) ⟨⟨Tryz.f23, (codeOf Tryz.f23), [.tmp 4], (impl_stalkSum_O k), by kernel_rfl, by kernel_rfl, by kernel_rfl, by kernel_rfl, rfl, by decide, ⟨by kernel_rfl, ?_, ?_⟩, ?_⟩⟩
  · refine loops_of (n := 1) (by kernel_rfl) fun i hi => ?_
    match i, hi with
    | 0, _ => exact loop_of (by kernel_rfl) (impl_stalkSum_l0_ok k)
    | n + 1, hi => omega
  · exact no_cuts (by kernel_rfl)
  · rintro ⟨s0, k1⟩
    kernel_rfl
/- 46 loop.example/g01005/impl.areStalks -/
def impl_areStalks_l0 (k : Nat) : Nat → (List Int) → Int → (List (List Int)) → (Option Bool) → Option Bool
  | 0, _, _, _, _ => none
  | n + 1, stalks1, x16, v_2, e_0 => (if (decide (x16 < 4)) = true then (impl_stalkSum k (v_2, (0, (stalks1, []))) x16).bind fun r_2 => (if (decide (32 < r_2)) = true then some false else impl_areStalks_l0 k n stalks1 (w_i64 (x16 + 1)) v_2 e_0) else e_0)
def impl_areStalks (k : Nat) (c0 : List (List Int)) (stalks1 : List Int) : Option Bool := (if (!(decide ((List.length stalks1 : Int) = (List.length c0 : Int)))) = true then some false else (slices_ContainsFunc_int64__impl_areStalks_1 k stalks1 ()).bind fun r_1 => (if r_1 = true then some false else impl_areStalks_l0 k k stalks1 0 c0 (some true)))
def impl_areStalks_l0_h : Head := ⟨[(1, (.val (.sl 2 (.int .i64)))), (2, (.bp 2 [] 0)), (16, (.val (.int .i64)))], [], [(2, 39, (.val (.st (.sl 25 (.sl 2 (.int .i64))))))]⟩
def impl_areStalks_l0_x0 : Head := ⟨[], [], []⟩
def impl_areStalks_l0_F (k n : Nat) (x : impl_areStalks_l0_h.T) (kx : Nat → St → Option Bool) : Option Bool := impl_areStalks_l0 k n x.1.1 x.1.2.2.1 x.2.2.1 (kx 0 (impl_areStalks_l0_x0.fill ((), (), ())))
def impl_areStalks_O (k : Nat) : Oracles Bool := ⟨fun n => bif Nat.beq n 4 then some (fun σ kx => impl_areStalks_l0_h.get σ fun x => impl_areStalks_l0_F k k x kx) else none, fun _ => none⟩
def fe_impl_areStalks (k : Nat) : FE := ⟨(.pr (.st (.sl 25 (.sl 2 (.int .i64)))) (.sl 2 (.int .i64))), 1, .bool, fun x => impl_areStalks k x.1 x.2⟩
theorem impl_areStalks_l0_ok (k : Nat) : LoopOK (mkEnv ti [(80, fe_slices_ContainsFunc_int64__impl_areStalks_1 k), (23, fe_impl_stalkSum k)] (lk []) pins0 pinB0) (impl_areStalks_O k) (rdC (mkEnv ti [(80, fe_slices_ContainsFunc_int64__impl_areStalks_1 k), (23, fe_impl_stalkSum k)] (lk []) pins0 pinB0) [.tmp 4] .bool) ((loopsOf (codeOf Tryz.f46)).getD 0 .skip) (fun σ kx => impl_areStalks_l0_h.get σ fun x => impl_areStalks_l0_F k k x kx) := by
  refine ⟨impl_areStalks_l0_h, [(0, impl_areStalks_l0_x0)], fun n x kx => impl_areStalks_l0_F k n x kx, k, by kernel_rfl, by kernel_rfl, fun x kx => by kernel_rfl, ?_, fun σ kx => rfl⟩
  rintro n ⟨⟨stalks1, ⟨⟩, x16, ⟨⟩⟩, ⟨⟩, ⟨v_2, ⟨⟩⟩⟩ kx
  kernel_rfl
theorem ok_impl_areStalks (k : Nat) : FnOK Tryz.prog 46 (fe_impl_areStalks k) := by
  refine closed_ok (tab := [(80, fe_slices_ContainsFunc_int64__impl_areStalks_1 k), (23, fe_impl_stalkSum k)]) (l := []) ti_ok ti_ht mix (List.forall_mem_cons.2 ⟨ok_slices_ContainsFunc_int64__impl_areStalks_1 k, (List.forall_mem_cons.2 ⟨ok_impl_stalkSum k, (List.forall_mem_nil _)⟩)⟩) (List.forall_mem_nil _) ⟨⟨Tryz.f46, (codeOf Tryz.f46), [.tmp 4], (impl_areStalks_O k), by kernel_rfl, by kernel_rfl, by kernel_rfl, by kernel_rfl, rfl, by decide, ⟨by kernel_rfl, ?_, ?_⟩, ?_⟩⟩
  · refine loops_of (n := 1) (by kernel_rfl) fun i hi => ?_
    match i, hi with
    | 0, _ => exact loop_of (by kernel_rfl) (impl_areStalks_l0_ok k)
    | n + 1, hi => omega
  · exact no_cuts (by kernel_rfl)
  · rintro ⟨c0, stalks1⟩
    kernel_rfl
/- 82 loop.example/g01005/impl.size[[]int64] -/
def impl_size_int64_i2 (list0 : List (List Int)) : Option Int := some (List.length list0 : Int)
def fe_impl_size_int64_i2 : FE := ⟨(.sl 25 (.sl 2 (.int .i64))), 1, (.int .i64), fun x => impl_size_int64_i2 x⟩
theorem ok_impl_size_int64_i2 : FnOK Tryz.prog 82 (fe_impl_size_int64_i2) := by
  refine closed_ok (tab := []) (l := []) ti_ok ti_ht mix (List.forall_mem_nil _) (List.forall_mem_nil _) ⟨⟨Tryz.f82, (codeOf Tryz.f82), [.tmp 2], (LOn Int), by kernel_rfl, by kernel_rfl, by kernel_rfl, by kernel_rfl, rfl, by decide, ⟨by kernel_rfl, ?_, ?_⟩, ?_⟩⟩
  · exact no_loops (by kernel_rfl)
  · exact no_cuts (by kernel_rfl)
  · rintro list0
    kernel_rfl
/- 83 loop.example/g01005/impl.faceIndices -/
def impl_faceIndices_l0 (k : Nat) : Nat → Int → Int → (List Int) → (List (List Int)) → (List (List Int)) → ((List Int) → Option (List Int)) → Option (List Int)
  | 0, _, _, _, _, _, _ => none
  | n + 1, x14, x15, q_3, q_4, v_2, e_0 => (if (decide (x15 < x14)) = true then (if 0 ≤ x15 ∧ x15.toNat < List.length q_4 then (q_4[x15.toNat]?).bind fun y_5 => (q_4[x15.toNat]?).bind fun y_6 => (impl_indexOf k v_2 y_6).bind fun r_7 => (if (q_3.length + [r_7].length) * 8 ≤ LIM then impl_faceIndices_l0 k n x14 (w_i64 (x15 + 1)) (q_3 ++ [r_7]) q_4 v_2 e_0 else none) else none) else e_0 q_3)
def impl_faceIndices (k : Nat) (c0 : List (List Int)) (k1 : Int) : Option (List Int) := (if 0 ≤ k1 then (c0[k1.toNat]?).bind fun y_1 => (impl_facesOf k y_1).bind fun r_2 => impl_faceIndices_l0 k k (List.length r_2 : Int) 0 [] r_2 c0 (fun q_8 => some q_8) else none)
def impl_faceIndices_l0_h : Head := ⟨[(2, (.bp 2 [] 0)), (5, (.ref 64000000 [])), (13, (.ref 64000001 [])), (14, (.val (.int .i64))), (15, (.val (.int .i64)))], [(64000000, 2, (.int .i64), false), (64000001, 25, (.sl 2 (.int .i64)), false)], [(2, 39, (.val (.st (.sl 25 (.sl 2 (.int .i64))))))]⟩
def impl_faceIndices_l0_x0 : Head := ⟨[(5, (.ref 64000000 []))], [(64000000, 2, (.int .i64), false)], []⟩
def impl_faceIndices_l0_F (k n : Nat) (x : impl_faceIndices_l0_h.T) (kx : Nat → St → Option (List Int)) : Option (List Int) := impl_faceIndices_l0 k n x.1.2.2.2.1 x.1.2.2.2.2.1 x.2.1.1 x.2.1.2.1 x.2.2.1 (fun (q_9 : List Int) => kx 0 (impl_faceIndices_l0_x0.fill (((), ()), (q_9, ()), ())))
def impl_faceIndices_O (k : Nat) : Oracles (List Int) := ⟨fun n => bif Nat.beq n 3 then some (fun σ kx => impl_faceIndices_l0_h.get σ fun x => impl_faceIndices_l0_F k k x kx) else none, fun _ => none⟩
def fe_impl_faceIndices (k : Nat) : FE := ⟨(.pr (.st (.sl 25 (.sl 2 (.int .i64)))) (.int .i64)), 1, (.sl 2 (.int .i64)), fun x => impl_faceIndices k x.1 x.2⟩
theorem impl_faceIndices_l0_ok (k : Nat) : LoopOK (mkEnv ti [(77, fe_impl_facesOf k), (79, fe_impl_indexOf k)] (lk []) pins0 pinB0) (impl_faceIndices_O k) (rdC (mkEnv ti [(77, fe_impl_facesOf k), (79, fe_impl_indexOf k)] (lk []) pins0 pinB0) [.tmp 4] (.sl 2 (.int .i64))) ((loopsOf (codeOf Tryz.f83)).getD 0 .skip) (fun σ kx => impl_faceIndices_l0_h.get σ fun x => impl_faceIndices_l0_F k k x kx) := by
  refine ⟨impl_faceIndices_l0_h, [(0, impl_faceIndices_l0_x0)], fun n x kx => impl_faceIndices_l0_F k n x kx, k, by kernel_rfl, by kernel_rfl, fun x kx => by kernel_rfl, ?_, fun σ kx => rfl⟩
  rintro n ⟨⟨⟨⟩, ⟨⟩, ⟨⟩, x14, x15, ⟨⟩⟩, ⟨q_3, q_4, ⟨⟩⟩, ⟨v_2, ⟨⟩⟩⟩ kx
  kernel_rfl
theorem ok_impl_faceIndices (k : Nat) : FnOK Tryz.prog 83 (fe_impl_faceIndices k) := by
  refine closed_ok (tab := [(77, fe_impl_facesOf k), (79, fe_impl_indexOf k)]) (l := []) ti_ok ti_ht mix (List.forall_mem_cons.2 ⟨ok_impl_facesOf k, (List.forall_mem_cons.2 ⟨ok_impl_indexOf k, (List.forall_mem_nil _)⟩)⟩) (List.forall_mem_nil _) ⟨⟨Tryz.f83, (codeOf Tryz.f83), [.tmp 4], (impl_faceIndices_O k), by kernel_rfl, by kernel_rfl, by kernel_rfl, by kernel_rfl, rfl, by decide, ⟨by kernel_rfl, ?_, ?_⟩, ?_⟩⟩
  · refine loops_of (n := 1) (by kernel_rfl) fun i hi => ?_
    match i, hi with
    | 0, _ => exact loop_of (by kernel_rfl) (impl_faceIndices_l0_ok k)
    | n + 1, hi => omega
  · exact no_cuts (by kernel_rfl)
  · rintro ⟨c0, k1⟩
    kernel_rfl
/- 47 loop.example/g01005/impl.arrows -/
def impl_arrows_l1 (k : Nat) : Nat → Int → Int → Int → Int → Int → (List (Int × Int × Int)) → (List Int) → (List (List Int)) → (Int → Int → (List (Int × Int × Int)) → (List (List Int)) → Option (List (Int × Int × Int))) → Option (List (Int × Int × Int))
  | 0, _, _, _, _, _, _, _, _, _ => none
  | n + 1, k4, x9, x10, x16, x17, q_4, q_5, v_1, e_2 => (if (decide (x17 < x16)) = true then (if 0 ≤ x17 ∧ x17.toNat < List.length q_5 then (q_5[x17.toNat]?).bind fun y_6 => (if (q_4.length + [(k4, (x17, y_6))].length) * 24 ≤ LIM then impl_arrows_l1 k n k4 x9 x10 x16 (w_i64 (x17 + 1)) (q_4 ++ [(k4, (x17, y_6))]) q_5 v_1 e_2 else none) else none) else e_2 x9 x10 q_4 v_1)
def impl_arrows_l0 (k : Nat) : Nat → Int → Int → (List (Int × Int × Int)) → (List (List Int)) → ((List (Int × Int × Int)) → Option (List (Int × Int × Int))) → Option (List (Int × Int × Int))
  | 0, _, _, _, _, _ => none
  | n + 1, x9, x10, q_2, v_1, e_0 => (if (decide (x10 < x9)) = true then (impl_faceIndices k v_1 x10).bind fun r_3 => impl_arrows_l1 k k x10 x9 x10 (List.length r_3 : Int) 0 q_2 r_3 v_1 (fun x_4 x_5 q_6 v_7 => impl_arrows_l0 k n x_4 (w_i64 (x_5 + 1)) q_6 v_7 e_0) else e_0 q_2)
def impl_arrows (k : Nat) (c0 : List (List Int)) : Option (List (Int × Int × Int)) := (impl_size_int64_i2 c0).bind fun r_1 => impl_arrows_l0 k k r_1 0 [] c0 (fun q_8 => some q_8)
def impl_arrows_l1_h : Head := ⟨[(1, (.bp 1 [] 0)), (3, (.ref 64000000 [])), (4, (.val (.int .i64))), (9, (.val (.int .i64))), (10, (.val (.int .i64))), (15, (.ref 64000001 [])), (16, (.val (.int .i64))), (17, (.val (.int .i64)))], [(64000000, 97, (.st (.pr (.int .i64) (.pr (.int .i64) (.int .i64)))), false), (64000001, 2, (.int .i64), false)], [(1, 39, (.val (.st (.sl 25 (.sl 2 (.int .i64))))))]⟩
def impl_arrows_l1_x2 : Head := ⟨[(1, (.bp 1 [] 0)), (3, (.ref 64000000 [])), (9, (.val (.int .i64))), (10, (.val (.int .i64)))], [(64000000, 97, (.st (.pr (.int .i64) (.pr (.int .i64) (.int .i64)))), false)], [(1, 39, (.val (.st (.sl 25 (.sl 2 (.int .i64))))))]⟩
def impl_arrows_l1_F (k n : Nat) (x : impl_arrows_l1_h.T) (kx : Nat → St → Option (List (Int × Int × Int))) : Option (List (Int × Int × Int)) := impl_arrows_l1 k n x.1.2.2.1 x.1.2.2.2.1 x.1.2.2.2.2.1 x.1.2.2.2.2.2.2.1 x.1.2.2.2.2.2.2.2.1 x.2.1.1 x.2.1.2.1 x.2.2.1 (fun (x9 : Int) (x10 : Int) (q_7 : List (Int × Int × Int)) (v_1 : List (List Int)) => kx 2 (impl_arrows_l1_x2.fill (((), (), x9, x10, ()), (q_7, ()), (v_1, ()))))
def impl_arrows_l0_h : Head := ⟨[(1, (.bp 1 [] 0)), (3, (.ref 64000000 [])), (9, (.val (.int .i64))), (10, (.val (.int .i64)))], [(64000000, 97, (.st (.pr (.int .i64) (.pr (.int .i64) (.int .i64)))), false)], [(1, 39, (.val (.st (.sl 25 (.sl 2 (.int .i64))))))]⟩
def impl_arrows_l0_x0 : Head := ⟨[(3, (.ref 64000000 []))], [(64000000, 97, (.st (.pr (.int .i64) (.pr (.int .i64) (.int .i64)))), false)], []⟩
def impl_arrows_l0_F (k n : Nat) (x : impl_arrows_l0_h.T) (kx : Nat → St → Option (List (Int × Int × Int))) : Option (List (Int × Int × Int)) := impl_arrows_l0 k n x.1.2.2.1 x.1.2.2.2.1 x.2.1.1 x.2.2.1 (fun (q_11 : List (Int × Int × Int)) => kx 0 (impl_arrows_l0_x0.fill (((), ()), (q_11, ()), ())))
def impl_arrows_O (k : Nat) : Oracles (List (Int × Int × Int)) := ⟨fun n => bif Nat.beq n 6 then some (fun σ kx => impl_arrows_l1_h.get σ fun x => impl_arrows_l1_F k k x kx) else bif Nat.beq n 3 then some (fun σ kx => impl_arrows_l0_h.get σ fun x => impl_arrows_l0_F k k x kx) else none, fun _ => none⟩
def fe_impl_arrows (k : Nat) : FE := ⟨(.st (.sl 25 (.sl 2 (.int .i64)))), 1, (.sl 97 (.st (.pr (.int .i64) (.pr (.int .i64) (.int .i64))))), fun x => impl_arrows k x⟩
theorem impl_arrows_l1_ok (k : Nat) : LoopOK (mkEnv ti [(82, fe_impl_size_int64_i2), (83, fe_impl_faceIndices k)] (lk []) pins0 pinB0) (impl_arrows_O k) (rdC (mkEnv ti [(82, fe_impl_size_int64_i2), (83, fe_impl_faceIndices k)] (lk []) pins0 pinB0) [.tmp 2] (.sl 97 (.st (.pr (.int .i64) (.pr (.int .i64) (.int .i64)))))) ((loopsOf (codeOf Tryz.f47)).getD 1 .skip) (fun σ kx => impl_arrows_l1_h.get σ fun x => impl_arrows_l1_F k k x kx) := by
  refine ⟨impl_arrows_l1_h, [(2, impl_arrows_l1_x2)], fun n x kx => impl_arrows_l1_F k n x kx, k, by kernel_rfl, by kernel_rfl, fun x kx => by kernel_rfl, ?_, fun σ kx => rfl⟩
  rintro n ⟨⟨⟨⟩, ⟨⟩, k4, x9, x10, ⟨⟩, x16, x17, ⟨⟩⟩, ⟨q_4, q_5, ⟨⟩⟩, ⟨v_1, ⟨⟩⟩⟩ kx
  kernel_rfl
theorem impl_arrows_l0_ok (k : Nat) : LoopOK (mkEnv ti [(82, fe_impl_size_int64_i2), (83, fe_impl_faceIndices k)] (lk []) pins0 pinB0) (impl_arrows_O k) (rdC (mkEnv ti [(82, fe_impl_size_int64_i2), (83, fe_impl_faceIndices k)] (lk []) pins0 pinB0) [.tmp 2] (.sl 97 (.st (.pr (.int .i64) (.pr (.int .i64) (.int .i64)))))) ((loopsOf (codeOf Tryz.f47)).getD 0 .skip) (fun σ kx => impl_arrows_l0_h.get σ fun x => impl_arrows_l0_F k k x kx) := by
  refine ⟨impl_arrows_l0_h, [(0, impl_arrows_l0_x0)], fun n x kx => impl_arrows_l0_F k n x kx, k, by kernel_rfl, by kernel_rfl, fun x kx => by kernel_rfl, ?_, fun σ kx => rfl⟩
  rintro n ⟨⟨⟨⟩, ⟨⟩, x9, x10, ⟨⟩⟩, ⟨q_2, ⟨⟩⟩, ⟨v_1, ⟨⟩⟩⟩ kx
  kernel_rfl
theorem ok_impl_arrows (k : Nat) : FnOK Tryz.prog 47 (fe_impl_arrows k) := by
  refine closed_ok (tab := [(82, fe_impl_size_int64_i2), (83, fe_impl_faceIndices k)]) (l := []) ti_ok ti_ht mix (List.forall_mem_cons.2 ⟨ok_impl_size_int64_i2, (List.forall_mem_cons.2 ⟨ok_impl_faceIndices k, (List.forall_mem_nil _)⟩)⟩) (List.forall_mem_nil _) ⟨⟨Tryz.f47, (codeOf Tryz.f47), [.tmp 2], (impl_arrows_O k), by kernel_rfl, by kernel_rfl, by kernel_rfl, by kernel_rfl, rfl, by decide, ⟨by kernel_rfl, ?_, ?_⟩, ?_⟩⟩
  · refine loops_of (n := 2) (by kernel_rfl) fun i hi => ?_
    match i, hi with
    | 0, _ => exact loop_of (by kernel_rfl) (impl_arrows_l0_ok k)
    | 1, _ => exact loop_of (by kernel_rfl) (impl_arrows_l1_ok k)
    | n + 2, hi => omega
  · exact no_cuts (by kernel_rfl)
  · rintro c0
    kernel_rfl
/- 107 loop.example/g01005/impl.isSide -/
def impl_isSide (n0 : Int) : Option Bool := (impl_within n0 0 32).bind fun r_1 => some r_1
def fe_impl_isSide : FE := ⟨(.int .i64), 1, .bool, fun x => impl_isSide x⟩
theorem ok_impl_isSide : FnOK Tryz.prog 107 (fe_impl_isSide) := by
  refine closed_ok (tab := [(49, fe_impl_within)]) (l := []) ti_ok ti_ht mix (List.forall_mem_cons.2 ⟨ok_impl_within, (List.forall_mem_nil _)⟩) (List.forall_mem_nil _) ⟨⟨Tryz.f107, (codeOf Tryz.f107), [.tmp 2], (LOn Bool), by kernel_rfl, by kernel_rfl, by kernel_rfl, by kernel_rfl, rfl, by decide, ⟨by kernel_rfl, ?_, ?_⟩, ?_⟩⟩
  · exact no_loops (by kernel_rfl)
  · exact no_cuts (by kernel_rfl)
  · rintro n0
    kernel_rfl
/- 50 loop.example/g01005/impl.isElement -/
def impl_isElement (a0 : Int) (p1 : Int) : Option Bool := (impl_within a0 0 (w_i64 (p1 - 1))).bind fun r_1 => some r_1
def fe_impl_isElement : FE := ⟨(.pr (.int .i64) (.int .i64)), 1, .bool, fun x => impl_isElement x.1 x.2⟩
theorem ok_impl_isElement : FnOK Tryz.prog 50 (fe_impl_isElement) := by
  refine closed_ok (tab := [(49, fe_impl_within)]) (l := []) ti_ok ti_ht mix (List.forall_mem_cons.2 ⟨ok_impl_within, (List.forall_mem_nil _)⟩) (List.forall_mem_nil _) ⟨⟨Tryz.f50, (codeOf Tryz.f50), [.tmp 4], (LOn Bool), by kernel_rfl, by kernel_rfl, by kernel_rfl, by kernel_rfl, rfl, by decide, ⟨by kernel_rfl, ?_, ?_⟩, ?_⟩⟩
  · exact no_loops (by kernel_rfl)
  · exact no_cuts (by kernel_rfl)
  · rintro ⟨a0, p1⟩
    kernel_rfl
/- 86 loop.example/g01005/impl.areElements$1 -/
def impl_areElements_1 (a0 : Int) (x1 : Int) : Option Bool := (impl_isElement a0 x1).bind fun r_1 => some (!r_1)
def fe_impl_areElements_1 : FE := ⟨(.pr (.int .i64) (.ptr (.int .i64))), 1, .bool, fun x => impl_areElements_1 x.1 x.2⟩
theorem ok_impl_areElements_1 : FnOK Tryz.prog 86 (fe_impl_areElements_1) := by
  refine closed_ok (tab := [(50, fe_impl_isElement)]) (l := []) ti_ok ti_ht mix (List.forall_mem_cons.2 ⟨ok_impl_isElement, (List.forall_mem_nil _)⟩) (List.forall_mem_nil _) ⟨⟨Tryz.f86, (codeOf Tryz.f86), [.tmp 3], (LOn Bool), by kernel_rfl, by kernel_rfl, by kernel_rfl, by kernel_rfl, rfl, by decide, ⟨by kernel_rfl, ?_, ?_⟩, ?_⟩⟩
  · exact no_loops (by kernel_rfl)
  · exact no_cuts (by kernel_rfl)
  · rintro ⟨a0, x1⟩
    kernel_rfl
/- 106 slices.IndexFunc[[]int64,int64] -/
def slices_IndexFunc_int64__impl_areElements_1_l0 (k : Nat) : Nat → (List Int) → Int → Int → Int → (Option Int) → Option Int
  | 0, _, _, _, _, _ => none
  | n + 1, s0, f1, x7, x8, e_0 => (if (decide (x8 < x7)) = true then (if 0 ≤ x8 then (s0[x8.toNat]?).bind fun y_1 => (impl_areElements_1 y_1 f1).bind fun r_2 => (if r_2 = true then some x8 else slices_IndexFunc_int64__impl_areElements_1_l0 k n s0 f1 x7 (w_i64 (x8 + 1)) e_0) else none) else e_0)
def slices_IndexFunc_int64__impl_areElements_1 (k : Nat) (s0 : List Int) (f1 : Int) : Option Int := slices_IndexFunc_int64__impl_areElements_1_l0 k k s0 f1 (List.length s0 : Int) 0 (some (-1))
def slices_IndexFunc_int64__impl_areElements_1_l0_h : Head := ⟨[(0, (.val (.sl 2 (.int .i64)))), (1, (.val (.fn 86 (.ptr (.int .i64))))), (7, (.val (.int .i64))), (8, (.val (.int .i64)))], [], []⟩
def slices_IndexFunc_int64__impl_areElements_1_l0_x0 : Head := ⟨[], [], []⟩
def slices_IndexFunc_int64__impl_areElements_1_l0_F (k n : Nat) (x : slices_IndexFunc_int64__impl_areElements_1_l0_h.T) (kx : Nat → St → Option Int) : Option Int := slices_IndexFunc_int64__impl_areElements_1_l0 k n x.1.1 x.1.2.1 x.1.2.2.1 x.1.2.2.2.1 (kx 0 (slices_IndexFunc_int64__impl_areElements_1_l0_x0.fill ((), (), ())))
def slices_IndexFunc_int64__impl_areElements_1_O (k : Nat) : Oracles Int := ⟨fun n => bif Nat.beq n 2 then some (fun σ kx => slices_IndexFunc_int64__impl_areElements_1_l0_h.get σ fun x => slices_IndexFunc_int64__impl_areElements_1_l0_F k k x kx) else none, fun _ => none⟩
def fe_slices_IndexFunc_int64__impl_areElements_1 (k : Nat) : FE := ⟨(.pr (.sl 2 (.int .i64)) (.fn 86 (.ptr (.int .i64)))), 1, (.int .i64), fun x => slices_IndexFunc_int64__impl_areElements_1 k x.1 x.2⟩
theorem slices_IndexFunc_int64__impl_areElements_1_l0_ok (k : Nat) : LoopOK (mkEnv ti [(86, fe_impl_areElements_1)] (lk []) pins0 pinB0) (slices_IndexFunc_int64__impl_areElements_1_O k) (rdC (mkEnv ti [(86, fe_impl_areElements_1)] (lk []) pins0 pinB0) [.tmp 4] (.int .i64)) ((loopsOf (codeOf Tryz.f106)).getD 0 .skip) (fun σ kx => slices_IndexFunc_int64__impl_areElements_1_l0_h.get σ fun x => slices_IndexFunc_int64__impl_areElements_1_l0_F k k x kx) := by
  refine ⟨slices_IndexFunc_int64__impl_areElements_1_l0_h, [(0, slices_IndexFunc_int64__impl_areElements_1_l0_x0)], fun n x kx => slices_IndexFunc_int64__impl_areElements_1_l0_F k n x kx, k, by kernel_rfl, by kernel_rfl, fun x kx => by kernel_rfl, ?_, fun σ kx => rfl⟩
  rintro n ⟨⟨s0, f1, x7, x8, ⟨⟩⟩, ⟨⟩, ⟨⟩⟩ kx
  kernel_rfl
theorem ok_slices_IndexFunc_int64__impl_areElements_1 (k : Nat) : FnOK Tryz.prog 106 (fe_slices_IndexFunc_int64__impl_areElements_1 k) := by
  refine closed_ok (tab := [(86, fe_impl_areElements_1)]) (l := []) ti_ok ti_ht mix (List.forall_mem_cons.2 ⟨ok_impl_areElements_1, (List.forall_mem_nil _)⟩) (List.forall_mem_nil _) ⟨⟨Tryz.f106, (codeOf Tryz.f106), [.tmp 4], (slices_IndexFunc_int64__impl_areElements_1_O k), by kernel_rfl, by kernel_rfl, by kernel_rfl, by kernel_rfl, rfl, by decide, ⟨by kernel_rfl, ?_, ?_⟩, ?_⟩⟩
  · refine loops_of (n := 1) (by kernel_rfl) fun i hi => ?_
    match i, hi with
    | 0, _ => exact loop_of (by kernel_rfl) (slices_IndexFunc_int64__impl_areElements_1_l0_ok k)
    | n + 1, hi => omega
  · exact no_cuts (by kernel_rfl)
  · rintro ⟨s0, f1⟩
    kernel_rfl
/- 80 slices.ContainsFunc[[]int64,int64] -/
def slices_ContainsFunc_int64__impl_areElements_1 (k : Nat) (s0 : List Int) (f1 : Int) : Option Bool := (slices_IndexFunc_int64__impl_areElements_1 k s0 f1).bind fun r_1 => some (decide (0 ≤ r_1))
def fe_slices_ContainsFunc_int64__impl_areElements_1 (k : Nat) : FE := ⟨(.pr (.sl 2 (.int .i64)) (.fn 86 (.ptr (.int .i64)))), 1, .bool, fun x => slices_ContainsFunc_int64__impl_areElements_1 k x.1 x.2⟩
theorem ok_slices_ContainsFunc_int64__impl_areElements_1 (k : Nat) : FnOK Tryz.prog 80 (fe_slices_ContainsFunc_int64__impl_areElements_1 k) := by
  refine closed_ok (tab := [(106, fe_slices_IndexFunc_int64__impl_areElements_1 k)]) (l := []) ti_ok ti_ht mix (List.forall_mem_cons.2 ⟨ok_slices_IndexFunc_int64__impl_areElements_1 k, (List.forall_mem_nil _)⟩) (List.forall_mem_nil _) ⟨⟨Tryz.f80, (codeOf Tryz.f80), [.tmp 4], (LOn Bool), by kernel_rfl, by kernel_rfl, by kernel_rfl, by kernel_rfl, rfl, by decide, ⟨by kernel_rfl, ?_, ?_⟩, ?_⟩⟩
  · exact no_loops (by kernel_rfl)
  · exact no_cuts (by kernel_rfl)
  · rintro ⟨s0, f1⟩
    kernel_rfl
/- 54 loop.example/g01005/impl.areElements -/
def impl_areElements (k : Nat) (list0 : List Int) (p1 : Int) : Option Bool := (slices_ContainsFunc_int64__impl_areElements_1 k list0 p1).bind fun r_1 => some (!r_1)
def fe_impl_areElements (k : Nat) : FE := ⟨(.pr (.sl 2 (.int .i64)) (.int .i64)), 1, .bool, fun x => impl_areElements k x.1 x.2⟩
theorem ok_impl_areElements (k : Nat) : FnOK Tryz.prog 54 (fe_impl_areElements k) := by
  refine closed_ok (tab := [(80, fe_slices_ContainsFunc_int64__impl_areElements_1 k)]) (l := []) ti_ok ti_ht mix (List.forall_mem_cons.2 ⟨ok_slices_ContainsFunc_int64__impl_areElements_1 k, (List.forall_mem_nil _)⟩) (List.forall_mem_nil _) ⟨⟨Tryz.f54, (codeOf Tryz.f54), [.tmp 4], (LOn Bool), by kernel_rfl, by kernel_rfl, by kernel_rfl, by kernel_rfl, rfl, by decide, ⟨by kernel_rfl, ?_, ?_⟩, ?_⟩⟩
  · exact no_loops (by kernel_rfl)
  · exact no_cuts (by kernel_rfl)
  · rintro ⟨list0, p1⟩
    kernel_rfl
/- 84 loop.example/g01005/impl.ValidMatrix -/
def impl_ValidMatrix (k : Nat) (m0 : Int × Int × Int × List Int) : Option Bool := (impl_ValidPrime k m0.1).bind fun r_1 => (if r_1 = true then (impl_isSide m0.2.1).bind fun r_2 => (if r_2 = true then (impl_isSide m0.2.2.1).bind fun r_3 => (if r_3 = true then (impl_size_int64 m0.2.2.2).bind fun r_4 => (if (decide (r_4 = (w_i64 (m0.2.1 * m0.2.2.1)))) = true then (impl_areElements k m0.2.2.2 m0.1).bind fun r_5 => some r_5 else some false) else some false) else some false) else some false)
def fe_impl_ValidMatrix (k : Nat) : FE := ⟨(.st (.pr (.int .i64) (.pr (.int .i64) (.pr (.int .i64) (.sl 2 (.int .i64)))))), 1, .bool, fun x => impl_ValidMatrix k x⟩
theorem ok_impl_ValidMatrix (k : Nat) : FnOK Tryz.prog 84 (fe_impl_ValidMatrix k) := by
  refine closed_ok (tab := [(45, fe_impl_ValidPrime k), (107, fe_impl_isSide), (53, fe_impl_size_int64), (54, fe_impl_areElements k)]) (l := []) ti_ok ti_ht mix (List.forall_mem_cons.2 ⟨ok_impl_ValidPrime k, (List.forall_mem_cons.2 ⟨ok_impl_isSide, (List.forall_mem_cons.2 ⟨ok_impl_size_int64, (List.forall_mem_cons.2 ⟨ok_impl_areElements k, (List.forall_mem_nil _)⟩)⟩)⟩)⟩) (List.forall_mem_nil _) ⟨⟨Tryz.f84, (codeOf Tryz.f84), [.tmp 2], (LOn Bool), by kernel_rfl, by kernel_rfl, by kernel_rfl, by kernel_rfl, rfl, by decide, ⟨by kernel_rfl, ?_, ?_⟩, ?_⟩⟩
  · exact no_loops (by kernel_rfl)
  · exact no_cuts (by kernel_rfl)
  · rintro m0
    kernel_rfl
/- 48 loop.example/g01005/impl.isBetween -/
def impl_isBetween (k : Nat) (m0 : Int × Int × Int × List Int) (p1 : Int) (from2 : Int) (to3 : Int) : Option Bool := (impl_ValidMatrix k m0).bind fun r_1 => (if r_1 = true then (if (decide (m0.1 = p1)) = true then (if (decide (m0.2.1 = to3)) = true then some (decide (m0.2.2.1 = from2)) else some false) else some false) else some false)
def fe_impl_isBetween (k : Nat) : FE := ⟨(.pr (.st (.pr (.int .i64) (.pr (.int .i64) (.pr (.int .i64) (.sl 2 (.int .i64)))))) (.pr (.int .i64) (.pr (.int .i64) (.int .i64)))), 1, .bool, fun x => impl_isBetween k x.1 x.2.1 x.2.2.1 x.2.2.2⟩
theorem ok_impl_isBetween (k : Nat) : FnOK Tryz.prog 48 (fe_impl_isBetween k) := by
  refine closed_ok (tab := [(84, fe_impl_ValidMatrix k)]) (l := []) ti_ok ti_ht mix (List.forall_mem_cons.2 ⟨ok_impl_ValidMatrix k, (List.forall_mem_nil _)⟩) (List.forall_mem_nil _) ⟨⟨Tryz.f48, (codeOf Tryz.f48), [.tmp 8], (LOn Bool), by kernel_rfl, by kernel_rfl, by kernel_rfl, by kernel_rfl, rfl, by decide, ⟨by kernel_rfl, ?_, ?_⟩, ?_⟩⟩
  · exact no_loops (by kernel_rfl)
  · exact no_cuts (by kernel_rfl)
  · rintro ⟨m0, p1, from2, to3⟩
    kernel_rfl
/- 18 loop.example/g01005/impl.ValidSheaf -/
def impl_ValidSheaf_l0 (k : Nat) : Nat → Int → Int → (List (Int × Int × Int)) → (List (List Int) × Int × List Int × List (Int × Int × Int × List Int)) → ((List (Int × Int × Int)) → (List (List Int) × Int × List Int × List (Int × Int × Int × List Int)) → Option Bool) → Option Bool
  | 0, _, _, _, _, _ => none
  | n + 1, x28, x29, q_5, v_1, e_0 => (if (decide (x29 < x28)) = true then (if 0 ≤ x29 ∧ x29.toNat < List.length q_5 then (q_5[x29.toNat]?).bind fun y_6 => (if (decide ((List.length v_1.2.2.2 : Int) ≤ x29)) = true then some false else (if 0 ≤ x29 then (v_1.2.2.2[x29.toNat]?).bind fun y_7 => (if 0 ≤ y_6.2.2 then (v_1.2.2.1[y_6.2.2.toNat]?).bind fun y_8 => (if 0 ≤ y_6.1 then (v_1.2.2.1[y_6.1.toNat]?).bind fun y_9 => (impl_isBetween k y_7 v_1.2.1 y_8 y_9).bind fun r_10 => (if (!r_10) = true then some false else impl_ValidSheaf_l0 k n x28 (w_i64 (x29 + 1)) q_5 v_1 e_0) else none) else none) else none)) else none) else e_0 q_5 v_1)
def impl_ValidSheaf (k : Nat) (s0 : List (List Int) × Int × List Int × List (Int × Int × Int × List Int)) : Option Bool := (impl_ValidComplex k s0.1).bind fun r_1 => (if (!r_1) = true then some false else (impl_ValidPrime k s0.2.1).bind fun r_2 => (if (!r_2) = true then some false else (impl_areStalks k s0.1 s0.2.2.1).bind fun r_3 => (if (!r_3) = true then some false else (impl_arrows k s0.1).bind fun r_4 => impl_ValidSheaf_l0 k k (List.length r_4 : Int) 0 r_4 s0 (fun q_11 v_12 => some (decide ((List.length q_11 : Int) = (List.length v_12.2.2.2 : Int)))))))
def impl_ValidSheaf_l0_h : Head := ⟨[(1, (.bp 1 [] 0)), (3, (.ref 64000000 [])), (27, (.ref 64000000 [])), (28, (.val (.int .i64))), (29, (.val (.int .i64)))], [(64000000, 97, (.st (.pr (.int .i64) (.pr (.int .i64) (.int .i64)))), false)], [(1, 42, (.val (.st (.pr (.st (.sl 25 (.sl 2 (.int .i64)))) (.pr (.int .i64) (.pr (.sl 2 (.int .i64)) (.sl 100 (.st (.pr (.int .i64) (.pr (.int .i64) (.pr (.int .i64) (.sl 2 (.int .i64)))))))))))))]⟩
def impl_ValidSheaf_l0_x0 : Head := ⟨[(1, (.bp 1 [] 0)), (3, (.ref 64000000 []))], [(64000000, 97, (.st (.pr (.int .i64) (.pr (.int .i64) (.int .i64)))), false)], [(1, 42, (.val (.st (.pr (.st (.sl 25 (.sl 2 (.int .i64)))) (.pr (.int .i64) (.pr (.sl 2 (.int .i64)) (.sl 100 (.st (.pr (.int .i64) (.pr (.int .i64) (.pr (.int .i64) (.sl 2 (.int .i64)))))))))))))]⟩
def impl_ValidSheaf_l0_F (k n : Nat) (x : impl_ValidSheaf_l0_h.T) (kx : Nat → St → Option Bool) : Option Bool := impl_ValidSheaf_l0 k n x.1.2.2.2.1 x.1.2.2.2.2.1 x.2.1.1 x.2.2.1 (fun (q_11 : List (Int × Int × Int)) (v_1 : List (List Int) × Int × List Int × List (Int × Int × Int × List Int)) => kx 0 (impl_ValidSheaf_l0_x0.fill (((), (), ()), (q_11, ()), (v_1, ()))))
def impl_ValidSheaf_O (k : Nat) : Oracles Bool := ⟨fun n => bif Nat.beq n 5 then some (fun σ kx => impl_ValidSheaf_l0_h.get σ fun x => impl_ValidSheaf_l0_F k k x kx) else none, fun _ => none⟩
def fe_impl_ValidSheaf (k : Nat) : FE := ⟨(.st (.pr (.st (.sl 25 (.sl 2 (.int .i64)))) (.pr (.int .i64) (.pr (.sl 2 (.int .i64)) (.sl 100 (.st (.pr (.int .i64) (.pr (.int .i64) (.pr (.int .i64) (.sl 2 (.int .i64))))))))))), 1, .bool, fun x => impl_ValidSheaf k x⟩
theorem impl_ValidSheaf_l0_ok (k : Nat) : LoopOK (mkEnv ti [(44, fe_impl_ValidComplex k), (45, fe_impl_ValidPrime k), (46, fe_impl_areStalks k), (47, fe_impl_arrows k), (48, fe_impl_isBetween k)] (lk []) pins0 pinB0) (impl_ValidSheaf_O k) (rdC (mkEnv ti [(44, fe_impl_ValidComplex k), (45, fe_impl_ValidPrime k), (46, fe_impl_areStalks k), (47, fe_impl_arrows k), (48, fe_impl_isBetween k)] (lk []) pins0 pinB0) [.tmp 2] .bool) ((loopsOf (codeOf Tryz.f18)).getD 0 .skip) (fun σ kx => impl_ValidSheaf_l0_h.get σ fun x => impl_ValidSheaf_l0_F k k x kx) := by
  refine ⟨impl_ValidSheaf_l0_h, [(0, impl_ValidSheaf_l0_x0)], fun n x kx => impl_ValidSheaf_l0_F k n x kx, k, by kernel_rfl, by kernel_rfl, fun x kx => by kernel_rfl, ?_, fun σ kx => rfl⟩
  rintro n ⟨⟨⟨⟩, ⟨⟩, ⟨⟩, x28, x29, ⟨⟩⟩, ⟨q_5, ⟨⟩⟩, ⟨v_1, ⟨⟩⟩⟩ kx
  kernel_rfl
theorem ok_impl_ValidSheaf (k : Nat) : FnOK Tryz.prog 18 (fe_impl_ValidSheaf k) := by
  refine closed_ok (tab := [(44, fe_impl_ValidComplex k), (45, fe_impl_ValidPrime k), (46, fe_impl_areStalks k), (47, fe_impl_arrows k), (48, fe_impl_isBetween k)]) (l := []) ti_ok ti_ht mix (List.forall_mem_cons.2 ⟨ok_impl_ValidComplex k, (List.forall_mem_cons.2 ⟨ok_impl_ValidPrime k, (List.forall_mem_cons.2 ⟨ok_impl_areStalks k, (List.forall_mem_cons.2 ⟨ok_impl_arrows k, (List.forall_mem_cons.2 ⟨ok_impl_isBetween k, (List.forall_mem_nil _)⟩)⟩)⟩)⟩)⟩) (List.forall_mem_nil _) ⟨⟨Tryz.f18, (codeOf Tryz.f18), [.tmp 2], (impl_ValidSheaf_O k), by kernel_rfl, by kernel_rfl, by kernel_rfl, by kernel_rfl, rfl, by decide, ⟨by kernel_rfl, ?_, ?_⟩, ?_⟩⟩
  · refine loops_of (n := 1) (by kernel_rfl) fun i hi => ?_
    match i, hi with
    | 0, _ => exact loop_of (by kernel_rfl) (impl_ValidSheaf_l0_ok k)
    | n + 1, hi => omega
  · exact no_cuts (by kernel_rfl)
  · rintro s0
    kernel_rfl
/- 19 loop.example/g01005/impl.isDimension -/
def impl_isDimension (k0 : Int) : Option Bool := (impl_within k0 0 3).bind fun r_1 => some r_1
def fe_impl_isDimension : FE := ⟨(.int .i64), 1, .bool, fun x => impl_isDimension x⟩
theorem ok_impl_isDimension : FnOK Tryz.prog 19 (fe_impl_isDimension) := by
  refine closed_ok (tab := [(49, fe_impl_within)]) (l := []) ti_ok ti_ht mix (List.forall_mem_cons.2 ⟨ok_impl_within, (List.forall_mem_nil _)⟩) (List.forall_mem_nil _) ⟨⟨Tryz.f19, (codeOf Tryz.f19), [.tmp 2], (LOn Bool), by kernel_rfl, by kernel_rfl, by kernel_rfl, by kernel_rfl, rfl, by decide, ⟨by kernel_rfl, ?_, ?_⟩, ?_⟩⟩
  · exact no_loops (by kernel_rfl)
  · exact no_cuts (by kernel_rfl)
  · rintro k0
    kernel_rfl
end
end Go.Proofs.YtankbidchgcapaaGreat.Ev
