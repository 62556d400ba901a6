/- Functions of the program, as plain ones. No conditions. -/
import Derived.Test.YtackggcodaolaaaDoorG1
import Derived.KernelRfl
set_option linter.unusedVariables false
set_option maxRecDepth 100000
namespace Go.Proofs.YtackggcodaolaaaDoor.Ev
open Go.RowKit
noncomputable section
/- 103 cmp.isNaN[int64] -/
def cmp_isNaN_int64 (x0 : Int) : Option Bool := some (!(decide (x0 = x0)))
def fe_cmp_isNaN_int64 : FE := ⟨(.int .i64), 1, .bool, fun x => cmp_isNaN_int64 x⟩
theorem ok_cmp_isNaN_int64 : FnOK Tryd.prog 103 (fe_cmp_isNaN_int64) := by
  refine closed_ok (tab := []) (l := []) ti_ok ti_ht mix (List.forall_mem_nil _) (List.forall_mem_nil _) ⟨⟨Tryd.f103, (codeOf Tryd.f103), [.tmp 2], (LOn Bool), by kernel_rfl, by kernel_rfl, by kernel_rfl, by kernel_rfl, rfl, by decide, ⟨by kernel_rfl, ?_, ?_⟩, ?_⟩⟩
  · exact no_loops (by kernel_rfl)
  · exact no_cuts (by kernel_rfl)
  · rintro x0
    kernel_rfl
/- 86 cmp.Compare[int64] -/
def cmp_Compare_int64 (x0 : Int) (y1 : Int) : Option Int := (cmp_isNaN_int64 x0).bind fun r_1 => (cmp_isNaN_int64 y1).bind fun r_2 => (if r_1 = true then (if r_2 = true then some 0 else some (-1)) else (if r_2 = true then some 1 else (if (decide (x0 < y1)) = true then some (-1) else (if (decide (y1 < x0)) = true then some 1 else some 0))))
def fe_cmp_Compare_int64 : FE := ⟨(.pr (.int .i64) (.int .i64)), 1, (.int .i64), fun x => cmp_Compare_int64 x.1 x.2⟩
theorem ok_cmp_Compare_int64 : FnOK Tryd.prog 86 (fe_cmp_Compare_int64) := by
  refine closed_ok (tab := [(103, fe_cmp_isNaN_int64)]) (l := []) ti_ok ti_ht mix (List.forall_mem_cons.2 ⟨ok_cmp_isNaN_int64, (List.forall_mem_nil _)⟩) (List.forall_mem_nil _) ⟨⟨Tryd.f86, (codeOf Tryd.f86), [.tmp 4], (LOn Int), by kernel_rfl, by kernel_rfl, by kernel_rfl, by kernel_rfl, rfl, by decide, ⟨by kernel_rfl, ?_, ?_⟩, ?_⟩⟩
  · exact no_loops (by kernel_rfl)
  · exact no_cuts (by kernel_rfl)
  · rintro ⟨x0, y1⟩
    kernel_rfl
/- 85 cmp.Or[int] -/
def cmp_Or_int_l0 (k : Nat) : Nat → Int → (List Int) → Int → Int → (Int → Option Int) → Option Int
  | 0, _, _, _, _, _ => none
  | n + 1, zero3, x6, x7, x8, e_0 => (if (decide (x8 < x7)) = true then (if 0 ≤ x8 then (x6[x8.toNat]?).bind fun y_1 => (if (!(decide (y_1 = zero3))) = true then some y_1 else cmp_Or_int_l0 k n zero3 x6 x7 (w_i64 (x8 + 1)) e_0) else none) else e_0 zero3)
def cmp_Or_int (k : Nat) (vals0 : List Int) : Option Int := cmp_Or_int_l0 k k 0 vals0 (List.length vals0 : Int) 0 (fun zero_2 => some zero_2)
def cmp_Or_int_l0_h : Head := ⟨[(3, (.val (.int .i64))), (6, (.val (.sl 3 (.int .i64)))), (7, (.val (.int .i64))), (8, (.val (.int .i64)))], [], []⟩
def cmp_Or_int_l0_x0 : Head := ⟨[(3, (.val (.int .i64)))], [], []⟩
def cmp_Or_int_l0_F (k n : Nat) (x : cmp_Or_int_l0_h.T) (kx : Nat → St → Option Int) : Option Int := cmp_Or_int_l0 k n x.1.1 x.1.2.1 x.1.2.2.1 x.1.2.2.2.1 (fun (zero3 : Int) => kx 0 (cmp_Or_int_l0_x0.fill ((zero3, ()), (), ())))
def cmp_Or_int_O (k : Nat) : Oracles Int := ⟨fun n => bif Nat.beq n 3 then some (fun σ kx => cmp_Or_int_l0_h.get σ fun x => cmp_Or_int_l0_F k k x kx) else none, fun _ => none⟩
def fe_cmp_Or_int (k : Nat) : FE := ⟨(.sl 3 (.int .i64)), 1, (.int .i64), fun x => cmp_Or_int k x⟩
theorem cmp_Or_int_l0_ok (k : Nat) : LoopOK (mkEnv ti [] (lk []) pins0 pinB0) (cmp_Or_int_O k) (rdC (mkEnv ti [] (lk []) pins0 pinB0) [.tmp 2] (.int .i64)) ((loopsOf (codeOf Tryd.f85)).getD 0 .skip) (fun σ kx => cmp_Or_int_l0_h.get σ fun x => cmp_Or_int_l0_F k k x kx) := by
  refine ⟨cmp_Or_int_l0_h, [(0, cmp_Or_int_l0_x0)], fun n x kx => cmp_Or_int_l0_F k n x kx, k, by kernel_rfl, by kernel_rfl, fun x kx => by kernel_rfl, ?_, fun σ kx => rfl⟩
  rintro n ⟨⟨zero3, x6, x7, x8, ⟨⟩⟩, ⟨⟩, ⟨⟩⟩ kx
  kernel_rfl
theorem ok_cmp_Or_int (k : Nat) : FnOK Tryd.prog 85 (fe_cmp_Or_int k) := by
  refine closed_ok (tab := []) (l := []) ti_ok ti_ht mix (List.forall_mem_nil _) (List.forall_mem_nil _) ⟨⟨Tryd.f85, (codeOf Tryd.f85), [.tmp 2], (cmp_Or_int_O k), by kernel_rfl, by kernel_rfl, by kernel_rfl, by kernel_rfl, rfl, by decide, ⟨by kernel_rfl, ?_, ?_⟩, ?_⟩⟩
  · refine loops_of (n := 1) (by kernel_rfl) fun i hi => ?_
    match i, hi with
    | 0, _ => exact loop_of (by kernel_rfl) (cmp_Or_int_l0_ok k)
    | n + 1, hi => omega
  · exact no_cuts (by kernel_rfl)
  · rintro vals0
    kernel_rfl
/- 63 loop.example/g01005/impl.compareEdges -/
def impl_compareEdges (k : Nat) (a0 : Int × Int × Int) (b1 : Int × Int × Int) : Option Int := (cmp_Compare_int64 a0.1 b1.1).bind fun r_1 => (cmp_Compare_int64 a0.2.1 b1.2.1).bind fun r_2 => (cmp_Or_int k [r_1, r_2]).bind fun r_3 => some r_3
def fe_impl_compareEdges (k : Nat) : FE := ⟨(.pr (.st (.pr (.int .i64) (.pr (.int .i64) (.int .i64)))) (.st (.pr (.int .i64) (.pr (.int .i64) (.int .i64))))), 1, (.int .i64), fun x => impl_compareEdges k x.1 x.2⟩
theorem ok_impl_compareEdges (k : Nat) : FnOK Tryd.prog 63 (fe_impl_compareEdges k) := by
  refine closed_ok (tab := [(86, fe_cmp_Compare_int64), (85, fe_cmp_Or_int k)]) (l := []) ti_ok ti_ht mix (List.forall_mem_cons.2 ⟨ok_cmp_Compare_int64, (List.forall_mem_cons.2 ⟨ok_cmp_Or_int k, (List.forall_mem_nil _)⟩)⟩) (List.forall_mem_nil _) ⟨⟨Tryd.f63, (codeOf Tryd.f63), [.tmp 4], (LOn Int), by kernel_rfl, by kernel_rfl, by kernel_rfl, by kernel_rfl, rfl, by decide, ⟨by kernel_rfl, ?_, ?_⟩, ?_⟩⟩
  · exact no_loops (by kernel_rfl)
  · exact no_cuts (by kernel_rfl)
  · rintro ⟨a0, b1⟩
    kernel_rfl
/- 32 loop.example/g01005/impl.ValidGraph -/
def impl_ValidGraph_l0 (k : Nat) : Nat → (List (Int × Int × Int)) → Int → Int → (Int × List (Int × Int × Int)) → ((Int × List (Int × Int × Int)) → Option Bool) → Option Bool
  | 0, _, _, _, _, _ => none
  | n + 1, x6, x7, x8, v_1, e_0 => (if (decide (x8 < x7)) = true then (if 0 ≤ x8 then (x6[x8.toNat]?).bind fun y_1 => (if (decide (y_1.1 < 0)) = true then some false else (if (decide (y_1.2.1 ≤ y_1.1)) = true then some false else (if (decide (v_1.1 ≤ y_1.2.1)) = true then some false else (impl_within y_1.2.2 1 9).bind fun r_2 => (if (!r_2) = true then some false else (if (decide (0 < x8)) = true then (if 0 ≤ (w_i64 (x8 - 1)) then (v_1.2[(w_i64 (x8 - 1)).toNat]?).bind fun y_3 => (impl_compareEdges k y_3 y_1).bind fun r_4 => (if (decide (0 ≤ r_4)) = true then some false else impl_ValidGraph_l0 k n x6 x7 (w_i64 (x8 + 1)) v_1 e_0) else none) else impl_ValidGraph_l0 k n x6 x7 (w_i64 (x8 + 1)) v_1 e_0))))) else none) else e_0 v_1)
def impl_ValidGraph (k : Nat) (g0 : Int × List (Int × Int × Int)) : Option Bool := impl_ValidGraph_l0 k k g0.2 (List.length g0.2 : Int) 0 g0 (fun v_5 => (impl_within v_5.1 1 12).bind fun r_6 => (if r_6 = true then some (decide ((List.length v_5.2 : Int) ≤ 24)) else some false))
def impl_ValidGraph_l0_h : Head := ⟨[(1, (.bp 1 [] 0)), (6, (.val (.sl 99 (.st (.pr (.int .i64) (.pr (.int .i64) (.int .i64))))))), (7, (.val (.int .i64))), (8, (.val (.int .i64)))], [], [(1, 31, (.val (.st (.pr (.int .i64) (.sl 99 (.st (.pr (.int .i64) (.pr (.int .i64) (.int .i64)))))))))]⟩
def impl_ValidGraph_l0_x0 : Head := ⟨[(1, (.bp 1 [] 0))], [], [(1, 31, (.val (.st (.pr (.int .i64) (.sl 99 (.st (.pr (.int .i64) (.pr (.int .i64) (.int .i64)))))))))]⟩
def impl_ValidGraph_l0_F (k n : Nat) (x : impl_ValidGraph_l0_h.T) (kx : Nat → St → Option Bool) : Option Bool := impl_ValidGraph_l0 k n x.1.2.1 x.1.2.2.1 x.1.2.2.2.1 x.2.2.1 (fun (v_1 : Int × List (Int × Int × Int)) => kx 0 (impl_ValidGraph_l0_x0.fill (((), ()), (), (v_1, ()))))
def impl_ValidGraph_O (k : Nat) : Oracles Bool := ⟨fun n => bif Nat.beq n 2 then some (fun σ kx => impl_ValidGraph_l0_h.get σ fun x => impl_ValidGraph_l0_F k k x kx) else none, fun _ => none⟩
def fe_impl_ValidGraph (k : Nat) : FE := ⟨(.st (.pr (.int .i64) (.sl 99 (.st (.pr (.int .i64) (.pr (.int .i64) (.int .i64))))))), 1, .bool, fun x => impl_ValidGraph k x⟩
theorem impl_ValidGraph_l0_ok (k : Nat) : LoopOK (mkEnv ti [(62, fe_impl_within), (63, fe_impl_compareEdges k)] (lk []) pins0 pinB0) (impl_ValidGraph_O k) (rdC (mkEnv ti [(62, fe_impl_within), (63, fe_impl_compareEdges k)] (lk []) pins0 pinB0) [.tmp 2] .bool) ((loopsOf (codeOf Tryd.f32)).getD 0 .skip) (fun σ kx => impl_ValidGraph_l0_h.get σ fun x => impl_ValidGraph_l0_F k k x kx) := by
  refine ⟨impl_ValidGraph_l0_h, [(0, impl_ValidGraph_l0_x0)], fun n x kx => impl_ValidGraph_l0_F k n x kx, k, by kernel_rfl, by kernel_rfl, fun x kx => by kernel_rfl, ?_, fun σ kx => rfl⟩
  rintro n ⟨⟨⟨⟩, x6, x7, x8, ⟨⟩⟩, ⟨⟩, ⟨v_1, ⟨⟩⟩⟩ kx
  kernel_rfl
theorem ok_impl_ValidGraph (k : Nat) : FnOK Tryd.prog 32 (fe_impl_ValidGraph k) := by
  refine closed_ok (tab := [(62, fe_impl_within), (63, fe_impl_compareEdges k)]) (l := []) ti_ok ti_ht mix (List.forall_mem_cons.2 ⟨ok_impl_within, (List.forall_mem_cons.2 ⟨ok_impl_compareEdges k, (List.forall_mem_nil _)⟩)⟩) (List.forall_mem_nil _) ⟨⟨Tryd.f32, (codeOf Tryd.f32), [.tmp 2], (impl_ValidGraph_O k), by kernel_rfl, by kernel_rfl, by kernel_rfl, by kernel_rfl, rfl, by decide, ⟨by kernel_rfl, ?_, ?_⟩, ?_⟩⟩
  · refine loops_of (n := 1) (by kernel_rfl) fun i hi => ?_
    match i, hi with
    | 0, _ => exact loop_of (by kernel_rfl) (impl_ValidGraph_l0_ok k)
    | n + 1, hi => omega
  · exact no_cuts (by kernel_rfl)
  · rintro g0
    kernel_rfl
/- 33 loop.example/g01005/impl.laplacian -/
def impl_laplacian_l0 (k : Nat) : Nat → Int → Int → (List (List Int)) → (Int × List (Int × Int × Int)) → ((List (List Int)) → (Int × List (Int × Int × Int)) → Option (List (List Int))) → Option (List (List Int))
  | 0, _, _, _, _, _ => none
  | n + 1, x11, x12, q_1, v_1, e_0 => (if (decide (x12 < x11)) = true then (if 0 ≤ v_1.1 ∧ v_1.1 ≤ v_1.1 ∧ v_1.1 * 8 ≤ LIM then (if 0 ≤ x12 ∧ x12.toNat < List.length q_1 then (q_1[x12.toNat]?).bind fun y_2 => (q_1[x12.toNat]?).bind fun y_3 => impl_laplacian_l0 k n x11 (w_i64 (x12 + 1)) (q_1.set x12.toNat (List.replicate v_1.1.toNat 0)) v_1 e_0 else none) else none) else e_0 q_1 v_1)
def impl_laplacian_l1 (k : Nat) : Nat → (List (Int × Int × Int)) → Int → Int → (List (List Int)) → ((List (List Int)) → Option (List (List Int))) → Option (List (List Int))
  | 0, _, _, _, _, _ => none
  | n + 1, x23, x24, x25, q_6, e_2 => (if (decide (x25 < x24)) = true then (if 0 ≤ x25 then (x23[x25.toNat]?).bind fun y_7 => (if 0 ≤ y_7.1 ∧ y_7.1.toNat < List.length q_6 then (q_6[y_7.1.toNat]?).bind fun y_8 => (q_6[y_7.1.toNat]?).bind fun y_9 => (if 0 ≤ y_7.1 ∧ y_7.1.toNat < List.length y_9 then (q_6[y_7.1.toNat]?).bind fun y_10 => (y_10[y_7.1.toNat]?).bind fun y_11 => (q_6[y_7.1.toNat]?).bind fun y_12 => (if 0 ≤ y_7.1 ∧ y_7.1.toNat < List.length y_12 then (q_6[y_7.1.toNat]?).bind fun y_13 => (y_13[y_7.1.toNat]?).bind fun y_14 => (q_6[y_7.1.toNat]?).bind fun y_15 => (y_15[y_7.1.toNat]?).bind fun y_16 => (if 0 ≤ y_7.2.1 ∧ y_7.2.1.toNat < List.length (q_6.set y_7.1.toNat (y_15.set y_7.1.toNat (w_i64 (y_11 + y_7.2.2)))) then ((q_6.set y_7.1.toNat (y_15.set y_7.1.toNat (w_i64 (y_11 + y_7.2.2))))[y_7.2.1.toNat]?).bind fun y_17 => ((q_6.set y_7.1.toNat (y_15.set y_7.1.toNat (w_i64 (y_11 + y_7.2.2))))[y_7.2.1.toNat]?).bind fun y_18 => (if 0 ≤ y_7.2.1 ∧ y_7.2.1.toNat < List.length y_18 then ((q_6.set y_7.1.toNat (y_15.set y_7.1.toNat (w_i64 (y_11 + y_7.2.2))))[y_7.2.1.toNat]?).bind fun y_19 => (y_19[y_7.2.1.toNat]?).bind fun y_20 => ((q_6.set y_7.1.toNat (y_15.set y_7.1.toNat (w_i64 (y_11 + y_7.2.2))))[y_7.2.1.toNat]?).bind fun y_21 => (if 0 ≤ y_7.2.1 ∧ y_7.2.1.toNat < List.length y_21 then ((q_6.set y_7.1.toNat (y_15.set y_7.1.toNat (w_i64 (y_11 + y_7.2.2))))[y_7.2.1.toNat]?).bind fun y_22 => (y_22[y_7.2.1.toNat]?).bind fun y_23 => ((q_6.set y_7.1.toNat (y_15.set y_7.1.toNat (w_i64 (y_11 + y_7.2.2))))[y_7.2.1.toNat]?).bind fun y_24 => (y_24[y_7.2.1.toNat]?).bind fun y_25 => (if 0 ≤ y_7.1 ∧ y_7.1.toNat < List.length ((q_6.set y_7.1.toNat (y_15.set y_7.1.toNat (w_i64 (y_11 + y_7.2.2)))).set y_7.2.1.toNat (y_24.set y_7.2.1.toNat (w_i64 (y_20 + y_7.2.2)))) then (((q_6.set y_7.1.toNat (y_15.set y_7.1.toNat (w_i64 (y_11 + y_7.2.2)))).set y_7.2.1.toNat (y_24.set y_7.2.1.toNat (w_i64 (y_20 + y_7.2.2))))[y_7.1.toNat]?).bind fun y_26 => (((q_6.set y_7.1.toNat (y_15.set y_7.1.toNat (w_i64 (y_11 + y_7.2.2)))).set y_7.2.1.toNat (y_24.set y_7.2.1.toNat (w_i64 (y_20 + y_7.2.2))))[y_7.1.toNat]?).bind fun y_27 => (if 0 ≤ y_7.2.1 ∧ y_7.2.1.toNat < List.length y_27 then (((q_6.set y_7.1.toNat (y_15.set y_7.1.toNat (w_i64 (y_11 + y_7.2.2)))).set y_7.2.1.toNat (y_24.set y_7.2.1.toNat (w_i64 (y_20 + y_7.2.2))))[y_7.1.toNat]?).bind fun y_28 => (y_28[y_7.2.1.toNat]?).bind fun y_29 => (((q_6.set y_7.1.toNat (y_15.set y_7.1.toNat (w_i64 (y_11 + y_7.2.2)))).set y_7.2.1.toNat (y_24.set y_7.2.1.toNat (w_i64 (y_20 + y_7.2.2))))[y_7.1.toNat]?).bind fun y_30 => (y_30[y_7.2.1.toNat]?).bind fun y_31 => (if 0 ≤ y_7.2.1 ∧ y_7.2.1.toNat < List.length (((q_6.set y_7.1.toNat (y_15.set y_7.1.toNat (w_i64 (y_11 + y_7.2.2)))).set y_7.2.1.toNat (y_24.set y_7.2.1.toNat (w_i64 (y_20 + y_7.2.2)))).set y_7.1.toNat (y_30.set y_7.2.1.toNat (w_i64 (0 - y_7.2.2)))) then ((((q_6.set y_7.1.toNat (y_15.set y_7.1.toNat (w_i64 (y_11 + y_7.2.2)))).set y_7.2.1.toNat (y_24.set y_7.2.1.toNat (w_i64 (y_20 + y_7.2.2)))).set y_7.1.toNat (y_30.set y_7.2.1.toNat (w_i64 (0 - y_7.2.2))))[y_7.2.1.toNat]?).bind fun y_32 => ((((q_6.set y_7.1.toNat (y_15.set y_7.1.toNat (w_i64 (y_11 + y_7.2.2)))).set y_7.2.1.toNat (y_24.set y_7.2.1.toNat (w_i64 (y_20 + y_7.2.2)))).set y_7.1.toNat (y_30.set y_7.2.1.toNat (w_i64 (0 - y_7.2.2))))[y_7.2.1.toNat]?).bind fun y_33 => (if 0 ≤ y_7.1 ∧ y_7.1.toNat < List.length y_33 then ((((q_6.set y_7.1.toNat (y_15.set y_7.1.toNat (w_i64 (y_11 + y_7.2.2)))).set y_7.2.1.toNat (y_24.set y_7.2.1.toNat (w_i64 (y_20 + y_7.2.2)))).set y_7.1.toNat (y_30.set y_7.2.1.toNat (w_i64 (0 - y_7.2.2))))[y_7.2.1.toNat]?).bind fun y_34 => (y_34[y_7.1.toNat]?).bind fun y_35 => ((((q_6.set y_7.1.toNat (y_15.set y_7.1.toNat (w_i64 (y_11 + y_7.2.2)))).set y_7.2.1.toNat (y_24.set y_7.2.1.toNat (w_i64 (y_20 + y_7.2.2)))).set y_7.1.toNat (y_30.set y_7.2.1.toNat (w_i64 (0 - y_7.2.2))))[y_7.2.1.toNat]?).bind fun y_36 => (y_36[y_7.1.toNat]?).bind fun y_37 => impl_laplacian_l1 k n x23 x24 (w_i64 (x25 + 1)) ((((q_6.set y_7.1.toNat (y_15.set y_7.1.toNat (w_i64 (y_11 + y_7.2.2)))).set y_7.2.1.toNat (y_24.set y_7.2.1.toNat (w_i64 (y_20 + y_7.2.2)))).set y_7.1.toNat (y_30.set y_7.2.1.toNat (w_i64 (0 - y_7.2.2)))).set y_7.2.1.toNat (y_36.set y_7.1.toNat (w_i64 (0 - y_7.2.2)))) e_2 else none) else none) else none) else none) else none) else none) else none) else none) else none) else none) else none) else e_2 q_6)
def impl_laplacian (k : Nat) (g0 : Int × List (Int × Int × Int)) : Option (List (List Int)) := (if 0 ≤ g0.1 ∧ g0.1 ≤ g0.1 ∧ g0.1 * 24 ≤ LIM then impl_laplacian_l0 k k (List.length (List.replicate g0.1.toNat ([] : List Int)) : Int) 0 (List.replicate g0.1.toNat ([] : List Int)) g0 (fun q_4 v_5 => impl_laplacian_l1 k k v_5.2 (List.length v_5.2 : Int) 0 q_4 (fun q_38 => some q_38)) else none)
def impl_laplacian_l0_h : Head := ⟨[(1, (.bp 1 [] 0)), (3, (.ref 64000000 [])), (11, (.val (.int .i64))), (12, (.val (.int .i64)))], [(64000000, 38, (.sl 2 (.int .i64)), false)], [(1, 31, (.val (.st (.pr (.int .i64) (.sl 99 (.st (.pr (.int .i64) (.pr (.int .i64) (.int .i64)))))))))]⟩
def impl_laplacian_l0_x0 : Head := ⟨[(1, (.bp 1 [] 0)), (3, (.ref 64000000 []))], [(64000000, 38, (.sl 2 (.int .i64)), false)], [(1, 31, (.val (.st (.pr (.int .i64) (.sl 99 (.st (.pr (.int .i64) (.pr (.int .i64) (.int .i64)))))))))]⟩
def impl_laplacian_l0_F (k n : Nat) (x : impl_laplacian_l0_h.T) (kx : Nat → St → Option (List (List Int))) : Option (List (List Int)) := impl_laplacian_l0 k n x.1.2.2.1 x.1.2.2.2.1 x.2.1.1 x.2.2.1 (fun (q_4 : List (List Int)) (v_1 : Int × List (Int × Int × Int)) => kx 0 (impl_laplacian_l0_x0.fill (((), (), ()), (q_4, ()), (v_1, ()))))
def impl_laplacian_l1_h : Head := ⟨[(3, (.ref 64000000 [])), (23, (.val (.sl 99 (.st (.pr (.int .i64) (.pr (.int .i64) (.int .i64))))))), (24, (.val (.int .i64))), (25, (.val (.int .i64)))], [(64000000, 38, (.sl 2 (.int .i64)), false)], []⟩
def impl_laplacian_l1_x2 : Head := ⟨[(3, (.ref 64000000 []))], [(64000000, 38, (.sl 2 (.int .i64)), false)], []⟩
def impl_laplacian_l1_F (k n : Nat) (x : impl_laplacian_l1_h.T) (kx : Nat → St → Option (List (List Int))) : Option (List (List Int)) := impl_laplacian_l1 k n x.1.2.1 x.1.2.2.1 x.1.2.2.2.1 x.2.1.1 (fun (q_38 : List (List Int)) => kx 2 (impl_laplacian_l1_x2.fill (((), ()), (q_38, ()), ())))
def impl_laplacian_O (k : Nat) : Oracles (List (List Int)) := ⟨fun n => bif Nat.beq n 3 then some (fun σ kx => impl_laplacian_l0_h.get σ fun x => impl_laplacian_l0_F k k x kx) else bif Nat.beq n 8 then some (fun σ kx => impl_laplacian_l1_h.get σ fun x => impl_laplacian_l1_F k k x kx) else none, fun _ => none⟩
def fe_impl_laplacian (k : Nat) : FE := ⟨(.st (.pr (.int .i64) (.sl 99 (.st (.pr (.int .i64) (.pr (.int .i64) (.int .i64))))))), 1, (.sl 38 (.sl 2 (.int .i64))), fun x => impl_laplacian k x⟩
theorem impl_laplacian_l0_ok (k : Nat) : LoopOK (mkEnv ti [] (lk []) pins0 pinB0) (impl_laplacian_O k) (rdC (mkEnv ti [] (lk []) pins0 pinB0) [.tmp 2] (.sl 38 (.sl 2 (.int .i64)))) ((loopsOf (codeOf Tryd.f33)).getD 0 .skip) (fun σ kx => impl_laplacian_l0_h.get σ fun x => impl_laplacian_l0_F k k x kx) := by
  refine ⟨impl_laplacian_l0_h, [(0, impl_laplacian_l0_x0)], fun n x kx => impl_laplacian_l0_F k n x kx, k, by kernel_rfl, by kernel_rfl, fun x kx => by kernel_rfl, ?_, fun σ kx => rfl⟩
  rintro n ⟨⟨⟨⟩, ⟨⟩, x11, x12, ⟨⟩⟩, ⟨q_1, ⟨⟩⟩, ⟨v_1, ⟨⟩⟩⟩ kx
  kernel_rfl
theorem impl_laplacian_l1_ok (k : Nat) : LoopOK (mkEnv ti [] (lk []) pins0 pinB0) (impl_laplacian_O k) (rdC (mkEnv ti [] (lk []) pins0 pinB0) [.tmp 2] (.sl 38 (.sl 2 (.int .i64)))) ((loopsOf (codeOf Tryd.f33)).getD 1 .skip) (fun σ kx => impl_laplacian_l1_h.get σ fun x => impl_laplacian_l1_F k k x kx) := by
  refine ⟨impl_laplacian_l1_h, [(2, impl_laplacian_l1_x2)], fun n x kx => impl_laplacian_l1_F k n x kx, k, by kernel_rfl, by kernel_rfl, fun x kx => by kernel_rfl, ?_, fun σ kx => rfl⟩
  rintro n ⟨⟨⟨⟩, x23, x24, x25, ⟨⟩⟩, ⟨q_6, ⟨⟩⟩, ⟨⟩⟩ kx
  kernel_rfl
theorem ok_impl_laplacian (k : Nat) : FnOK Tryd.prog 33 (fe_impl_laplacian k) := by
  refine closed_ok (tab := []) (l := []) ti_ok ti_ht mix (List.forall_mem_nil _) (List.forall_mem_nil _) ⟨⟨Tryd.f33, (codeOf Tryd.f33), [.tmp 2], (impl_laplacian_O k), by kernel_rfl, by kernel_rfl, by kernel_rfl, by kernel_rfl, rfl, by decide, ⟨by kernel_rfl, ?_, ?_⟩, ?_⟩⟩
  · refine loops_of (n := 2) (by kernel_rfl) fun i hi => ?_
    match i, hi with
    | 0, _ => exact loop_of (by kernel_rfl) (impl_laplacian_l0_ok k)
    | 1, _ => exact loop_of (by kernel_rfl) (impl_laplacian_l1_ok k)
    | n + 2, hi => omega
  · exact no_cuts (by kernel_rfl)
  · rintro g0
    kernel_rfl
/- 64 strconv.FormatInt (off the shelf) -/
def strconv_FormatInt (n : Int) (b : Int) : Option (List UInt8) := if b = 10 ∧ -9223372036854775808 ≤ n ∧ n ≤ 9223372036854775807 then some (Lib.itoa n) else none
abbrev fe_strconv_FormatInt : FE := fe_formatInt
theorem ok_strconv_FormatInt : FnOK Tryd.prog 64 fe_strconv_FormatInt := ok_formatInt (fn := Tryd.f64) (cd := codeOf Tryd.f64) (by kernel_rfl) (by kernel_rfl) (by kernel_rfl) (fun n h0 h1 w hG => Go.Proofs.Tryd.strconv_FormatInt_10 n h0 h1 w hG)
/- 34 loop.example/g01005/impl.Decimal -/
def impl_Decimal (n0 : Int) : Option (List UInt8) := (strconv_FormatInt n0 10).bind fun r_1 => some r_1
def fe_impl_Decimal : FE := ⟨(.int .i64), 1, .str, fun x => impl_Decimal x⟩
theorem ok_impl_Decimal : FnOK Tryd.prog 34 (fe_impl_Decimal) := by
  refine closed_ok (tab := [(64, fe_strconv_FormatInt)]) (l := []) ti_ok ti_ht mix (List.forall_mem_cons.2 ⟨ok_strconv_FormatInt, (List.forall_mem_nil _)⟩) (List.forall_mem_nil _) ⟨⟨Tryd.f34, (codeOf Tryd.f34), [.tmp 2], (LOn (List UInt8)), by kernel_rfl, by kernel_rfl, by kernel_rfl, by kernel_rfl, rfl, by decide, ⟨by kernel_rfl, ?_, ?_⟩, ?_⟩⟩
  · exact no_loops (by kernel_rfl)
  · exact no_cuts (by kernel_rfl)
  · rintro n0
    kernel_rfl
/- 45 strings.Repeat (off the shelf) -/
def strings_Repeat (s : List UInt8) (c : Int) : Option (List UInt8) := if 0 ≤ c ∧ c ≤ 9223372036854775807 ∧ List.length s * c.toNat ≤ 140737488355328 then some (Lib.repeatL s c.toNat) else none
abbrev fe_strings_Repeat : FE := fe_repeat
theorem ok_strings_Repeat : FnOK Tryd.prog 45 fe_strings_Repeat := ok_repeat (fn := Tryd.f45) (cd := codeOf Tryd.f45) (by kernel_rfl) (by kernel_rfl) (by kernel_rfl) (fun s c w h1 h2 => Go.Proofs.Tryd.strings_Repeat s c w h1 h2)
/- 35 loop.example/g01005/impl.pictured -/
def impl_pictured_l0 (k : Nat) : Nat → (List (List UInt8)) → Int → (List (List UInt8)) → Int → Int → ((List (List UInt8)) → Int → Option (List (List UInt8) × Int)) → Option (List (List UInt8) × Int)
  | 0, _, _, _, _, _, _ => none
  | n + 1, lines0, width4, x10, x11, x12, e_0 => (if (decide (x12 < x11)) = true then (if 0 ≤ x12 then (x10[x12.toNat]?).bind fun y_1 => impl_pictured_l0 k n lines0 (if width4 < (List.length y_1 : Int) then (List.length y_1 : Int) else width4) x10 x11 (w_i64 (x12 + 1)) e_0 else none) else e_0 lines0 width4)
def impl_pictured_l1 (k : Nat) : Nat → Int → (List (List UInt8)) → Int → Int → (List (List UInt8)) → (Int → (List (List UInt8)) → Option (List (List UInt8) × Int)) → Option (List (List UInt8) × Int)
  | 0, _, _, _, _, _, _ => none
  | n + 1, width4, x21, x22, x23, q_4, e_2 => (if (decide (x23 < x22)) = true then (if 0 ≤ x23 then (x21[x23.toNat]?).bind fun y_5 => (strings_Repeat [32] (w_i64 (width4 - (List.length y_5 : Int)))).bind fun r_6 => (if y_5.length + r_6.length ≤ 9223372036854775807 then (if (q_4.length + [(y_5 ++ r_6)].length) * 16 ≤ LIM then impl_pictured_l1 k n width4 x21 x22 (w_i64 (x23 + 1)) (q_4 ++ [(y_5 ++ r_6)]) e_2 else none) else none) else none) else e_2 width4 q_4)
def impl_pictured (k : Nat) (lines0 : List (List UInt8)) : Option (List (List UInt8) × Int) := impl_pictured_l0 k k lines0 0 lines0 (List.length lines0 : Int) 0 (fun lines_2 width_3 => impl_pictured_l1 k k width_3 lines_2 (List.length lines_2 : Int) 0 [] (fun width_7 q_8 => (if (decide (60 < (List.length q_8 : Int))) = true then some ([], 5) else (if (decide (80 < width_7)) = true then some ([], 5) else some (q_8, 0)))))
def impl_pictured_l0_h : Head := ⟨[(0, (.val (.sl 9 .str))), (4, (.val (.int .i64))), (10, (.val (.sl 9 .str))), (11, (.val (.int .i64))), (12, (.val (.int .i64)))], [], []⟩
def impl_pictured_l0_x0 : Head := ⟨[(0, (.val (.sl 9 .str))), (4, (.val (.int .i64)))], [], []⟩
def impl_pictured_l0_F (k n : Nat) (x : impl_pictured_l0_h.T) (kx : Nat → St → Option (List (List UInt8) × Int)) : Option (List (List UInt8) × Int) := impl_pictured_l0 k n x.1.1 x.1.2.1 x.1.2.2.1 x.1.2.2.2.1 x.1.2.2.2.2.1 (fun (lines0 : List (List UInt8)) (width4 : Int) => kx 0 (impl_pictured_l0_x0.fill ((lines0, width4, ()), (), ())))
def impl_pictured_l1_h : Head := ⟨[(4, (.val (.int .i64))), (7, (.ref 64000000 [])), (21, (.val (.sl 9 .str))), (22, (.val (.int .i64))), (23, (.val (.int .i64)))], [(64000000, 9, .str, false)], []⟩
def impl_pictured_l1_x2 : Head := ⟨[(4, (.val (.int .i64))), (7, (.ref 64000000 []))], [(64000000, 9, .str, false)], []⟩
def impl_pictured_l1_F (k n : Nat) (x : impl_pictured_l1_h.T) (kx : Nat → St → Option (List (List UInt8) × Int)) : Option (List (List UInt8) × Int) := impl_pictured_l1 k n x.1.1 x.1.2.2.1 x.1.2.2.2.1 x.1.2.2.2.2.1 x.2.1.1 (fun (width4 : Int) (q_7 : List (List UInt8)) => kx 2 (impl_pictured_l1_x2.fill ((width4, (), ()), (q_7, ()), ())))
def impl_pictured_O (k : Nat) : Oracles (List (List UInt8) × Int) := ⟨fun n => bif Nat.beq n 3 then some (fun σ kx => impl_pictured_l0_h.get σ fun x => impl_pictured_l0_F k k x kx) else bif Nat.beq n 9 then some (fun σ kx => impl_pictured_l1_h.get σ fun x => impl_pictured_l1_F k k x kx) else none, fun _ => none⟩
def fe_impl_pictured (k : Nat) : FE := ⟨(.sl 9 .str), 2, (.pr (.sl 9 .str) (.int .i64)), fun x => impl_pictured k x⟩
theorem impl_pictured_l0_ok (k : Nat) : LoopOK (mkEnv ti [(45, fe_strings_Repeat)] (lk []) pins0 pinB0) (impl_pictured_O k) (rdC (mkEnv ti [(45, fe_strings_Repeat)] (lk []) pins0 pinB0) [.tmp 2, .tmp 3] (.pr (.sl 9 .str) (.int .i64))) ((loopsOf (codeOf Tryd.f35)).getD 0 .skip) (fun σ kx => impl_pictured_l0_h.get σ fun x => impl_pictured_l0_F k k x kx) := by
  refine ⟨impl_pictured_l0_h, [(0, impl_pictured_l0_x0)], fun n x kx => impl_pictured_l0_F k n x kx, k, by kernel_rfl, by kernel_rfl, fun x kx => by kernel_rfl, ?_, fun σ kx => rfl⟩
  rintro n ⟨⟨lines0, width4, x10, x11, x12, ⟨⟩⟩, ⟨⟩, ⟨⟩⟩ kx
  kernel_rfl
theorem impl_pictured_l1_ok (k : Nat) : LoopOK (mkEnv ti [(45, fe_strings_Repeat)] (lk []) pins0 pinB0) (impl_pictured_O k) (rdC (mkEnv ti [(45, fe_strings_Repeat)] (lk []) pins0 pinB0) [.tmp 2, .tmp 3] (.pr (.sl 9 .str) (.int .i64))) ((loopsOf (codeOf Tryd.f35)).getD 1 .skip) (fun σ kx => impl_pictured_l1_h.get σ fun x => impl_pictured_l1_F k k x kx) := by
  refine ⟨impl_pictured_l1_h, [(2, impl_pictured_l1_x2)], fun n x kx => impl_pictured_l1_F k n x kx, k, by kernel_rfl, by kernel_rfl, fun x kx => by kernel_rfl, ?_, fun σ kx => rfl⟩
  rintro n ⟨⟨width4, ⟨⟩, x21, x22, x23, ⟨⟩⟩, ⟨q_4, ⟨⟩⟩, ⟨⟩⟩ kx
  kernel_rfl
theorem ok_impl_pictured (k : Nat) : FnOK Tryd.prog 35 (fe_impl_pictured k) := by
  refine closed_ok (tab := [(45, fe_strings_Repeat)]) (l := []) ti_ok ti_ht mix (List.forall_mem_cons.2 ⟨ok_strings_Repeat, (List.forall_mem_nil _)⟩) (List.forall_mem_nil _) ⟨⟨Tryd.f35, (codeOf Tryd.f35), [.tmp 2, .tmp 3], (impl_pictured_O k), by kernel_rfl, by kernel_rfl, by kernel_rfl, by kernel_rfl, rfl, by decide, ⟨by kernel_rfl, ?_, ?_⟩, ?_⟩⟩
  · refine loops_of (n := 2) (by kernel_rfl) fun i hi => ?_
    match i, hi with
    | 0, _ => exact loop_of (by kernel_rfl) (impl_pictured_l0_ok k)
    | 1, _ => exact loop_of (by kernel_rfl) (impl_pictured_l1_ok k)
    | n + 2, hi => omega
  · exact no_cuts (by kernel_rfl)
  · rintro lines0
    kernel_rfl
/- 9 loop.example/g01005/impl.GraphPicture -/
def impl_GraphPicture_l1 (k : Nat) : Nat → Int → (List UInt8) → Int → Int → Nat → Int → Int → (List (List UInt8)) → (List (List Int)) → ((List UInt8) → Int → Int → (List (List UInt8)) → (List (List Int)) → Option (List (List UInt8) × Int)) → Option (List (List UInt8) × Int)
  | 0, _, _, _, _, _, _, _, _, _, _ => none
  | n + 1, i5, line7, x15, x16, x21n0, x22, x23, q_7, q_8, e_2 => (if (decide (x23 < x22)) = true then (q_8[x21n0]?).bind fun y_9 => (if 0 ≤ x23 ∧ x23.toNat < List.length y_9 then (q_8[x21n0]?).bind fun y_10 => (y_10[x23.toNat]?).bind fun y_11 => (if (decide (i5 = x23)) = true then (if line7.length + [92].length ≤ 9223372036854775807 then impl_GraphPicture_l1 k n i5 (line7 ++ [92]) x15 x16 x21n0 x22 (w_i64 (x23 + 1)) q_7 q_8 e_2 else none) else (if (decide (y_11 = 0)) = true then (if line7.length + [46].length ≤ 9223372036854775807 then impl_GraphPicture_l1 k n i5 (line7 ++ [46]) x15 x16 x21n0 x22 (w_i64 (x23 + 1)) q_7 q_8 e_2 else none) else (impl_Decimal (w_i64 (0 - y_11))).bind fun r_12 => (if line7.length + r_12.length ≤ 9223372036854775807 then impl_GraphPicture_l1 k n i5 (line7 ++ r_12) x15 x16 x21n0 x22 (w_i64 (x23 + 1)) q_7 q_8 e_2 else none))) else none) else e_2 line7 x15 x16 q_7 q_8)
def impl_GraphPicture_l0 (k : Nat) : Nat → Int → Int → (List (List UInt8)) → (List (List Int)) → ((List (List UInt8)) → Option (List (List UInt8) × Int)) → Option (List (List UInt8) × Int)
  | 0, _, _, _, _, _ => none
  | n + 1, x15, x16, q_3, q_4, e_0 => (if (decide (x16 < x15)) = true then (if 0 ≤ x16 ∧ x16.toNat < List.length q_4 then (q_4[x16.toNat]?).bind fun y_5 => (q_4[x16.toNat]?).bind fun y_6 => impl_GraphPicture_l1 k k x16 [] x15 x16 x16.toNat (List.length y_6 : Int) 0 q_3 q_4 (fun line_7 x_8 x_9 q_10 q_11 => (if (q_10.length + [line_7].length) * 16 ≤ LIM then impl_GraphPicture_l0 k n x_8 (w_i64 (x_9 + 1)) (q_10 ++ [line_7]) q_11 e_0 else none)) else none) else e_0 q_3)
def impl_GraphPicture (k : Nat) (g0 : Int × List (Int × Int × Int)) : Option (List (List UInt8) × Int) := (impl_ValidGraph k g0).bind fun r_1 => (if (!r_1) = true then some ([], 1) else (impl_laplacian k g0).bind fun r_2 => impl_GraphPicture_l0 k k (List.length r_2 : Int) 0 [] r_2 (fun q_12 => (impl_pictured k q_12).bind fun r_13 => some (r_13.1, r_13.2)))
def impl_GraphPicture_l1_h : Head := ⟨[(4, (.ref 64000000 [])), (5, (.val (.int .i64))), (7, (.val .str)), (14, (.ref 64000001 [])), (15, (.val (.int .i64))), (16, (.val (.int .i64))), (21, (.ref 64000001 [.ix])), (22, (.val (.int .i64))), (23, (.val (.int .i64)))], [(64000000, 9, .str, false), (64000001, 38, (.sl 2 (.int .i64)), false)], []⟩
def impl_GraphPicture_l1_x2 : Head := ⟨[(4, (.ref 64000000 [])), (7, (.val .str)), (14, (.ref 64000001 [])), (15, (.val (.int .i64))), (16, (.val (.int .i64)))], [(64000000, 9, .str, false), (64000001, 38, (.sl 2 (.int .i64)), false)], []⟩
def impl_GraphPicture_l1_F (k n : Nat) (x : impl_GraphPicture_l1_h.T) (kx : Nat → St → Option (List (List UInt8) × Int)) : Option (List (List UInt8) × Int) := impl_GraphPicture_l1 k n x.1.2.1 x.1.2.2.1 x.1.2.2.2.2.1 x.1.2.2.2.2.2.1 x.1.2.2.2.2.2.2.1.1 x.1.2.2.2.2.2.2.2.1 x.1.2.2.2.2.2.2.2.2.1 x.2.1.1 x.2.1.2.1 (fun (line7 : List UInt8) (x15 : Int) (x16 : Int) (q_13 : List (List UInt8)) (q_14 : List (List Int)) => kx 2 (impl_GraphPicture_l1_x2.fill (((), line7, (), x15, x16, ()), (q_13, q_14, ()), ())))
def impl_GraphPicture_l0_h : Head := ⟨[(4, (.ref 64000000 [])), (14, (.ref 64000001 [])), (15, (.val (.int .i64))), (16, (.val (.int .i64)))], [(64000000, 9, .str, false), (64000001, 38, (.sl 2 (.int .i64)), false)], []⟩
def impl_GraphPicture_l0_x0 : Head := ⟨[(4, (.ref 64000000 []))], [(64000000, 9, .str, false)], []⟩
def impl_GraphPicture_l0_F (k n : Nat) (x : impl_GraphPicture_l0_h.T) (kx : Nat → St → Option (List (List UInt8) × Int)) : Option (List (List UInt8) × Int) := impl_GraphPicture_l0 k n x.1.2.2.1 x.1.2.2.2.1 x.2.1.1 x.2.1.2.1 (fun (q_18 : List (List UInt8)) => kx 0 (impl_GraphPicture_l0_x0.fill (((), ()), (q_18, ()), ())))
def impl_GraphPicture_O (k : Nat) : Oracles (List (List UInt8) × Int) := ⟨fun n => bif Nat.beq n 9 then some (fun σ kx => impl_GraphPicture_l1_h.get σ fun x => impl_GraphPicture_l1_F k k x kx) else bif Nat.beq n 5 then some (fun σ kx => impl_GraphPicture_l0_h.get σ fun x => impl_GraphPicture_l0_F k k x kx) else none, fun _ => none⟩
def fe_impl_GraphPicture (k : Nat) : FE := ⟨(.st (.pr (.int .i64) (.sl 99 (.st (.pr (.int .i64) (.pr (.int .i64) (.int .i64))))))), 2, (.pr (.sl 9 .str) (.int .i64)), fun x => impl_GraphPicture k x⟩
theorem impl_GraphPicture_l1_ok (k : Nat) : LoopOK (mkEnv ti [(32, fe_impl_ValidGraph k), (33, fe_impl_laplacian k), (34, fe_impl_Decimal), (35, fe_impl_pictured k)] (lk []) pins0 pinB0) (impl_GraphPicture_O k) (rdC (mkEnv ti [(32, fe_impl_ValidGraph k), (33, fe_impl_laplacian k), (34, fe_impl_Decimal), (35, fe_impl_pictured k)] (lk []) pins0 pinB0) [.tmp 2, .tmp 3] (.pr (.sl 9 .str) (.int .i64))) ((loopsOf (codeOf Tryd.f9)).getD 1 .skip) (fun σ kx => impl_GraphPicture_l1_h.get σ fun x => impl_GraphPicture_l1_F k k x kx) := by
  refine ⟨impl_GraphPicture_l1_h, [(2, impl_GraphPicture_l1_x2)], fun n x kx => impl_GraphPicture_l1_F k n x kx, k, by kernel_rfl, by kernel_rfl, fun x kx => by kernel_rfl, ?_, fun σ kx => rfl⟩
  rintro n ⟨⟨⟨⟩, i5, line7, ⟨⟩, x15, x16, ⟨x21n0, ⟨⟩⟩, x22, x23, ⟨⟩⟩, ⟨q_7, q_8, ⟨⟩⟩, ⟨⟩⟩ kx
  kernel_rfl
theorem impl_GraphPicture_l0_ok (k : Nat) : LoopOK (mkEnv ti [(32, fe_impl_ValidGraph k), (33, fe_impl_laplacian k), (34, fe_impl_Decimal), (35, fe_impl_pictured k)] (lk []) pins0 pinB0) (impl_GraphPicture_O k) (rdC (mkEnv ti [(32, fe_impl_ValidGraph k), (33, fe_impl_laplacian k), (34, fe_impl_Decimal), (35, fe_impl_pictured k)] (lk []) pins0 pinB0) [.tmp 2, .tmp 3] (.pr (.sl 9 .str) (.int .i64))) ((loopsOf (codeOf Tryd.f9)).getD 0 .skip) (fun σ kx => impl_GraphPicture_l0_h.get σ fun x => impl_GraphPicture_l0_F k k x kx) := by
  refine ⟨impl_GraphPicture_l0_h, [(0, impl_GraphPicture_l0_x0)], fun n x kx => impl_GraphPicture_l0_F k n x kx, k, by kernel_rfl, by kernel_rfl, fun x kx => by kernel_rfl, ?_, fun σ kx => rfl⟩
  rintro n ⟨⟨⟨⟩, ⟨⟩, x15, x16, ⟨⟩⟩, ⟨q_3, q_4, ⟨⟩⟩, ⟨⟩⟩ kx
  kernel_rfl
theorem ok_impl_GraphPicture (k : Nat) : FnOK Tryd.prog 9 (fe_impl_GraphPicture k) := by
  refine closed_ok (tab := [(32, fe_impl_ValidGraph k), (33, fe_impl_laplacian k), (34, fe_impl_Decimal), (35, fe_impl_pictured k)]) (l := []) ti_ok ti_ht mix (List.forall_mem_cons.2 ⟨ok_impl_ValidGraph k, (List.forall_mem_cons.2 ⟨ok_impl_laplacian k, (List.forall_mem_cons.2 ⟨ok_impl_Decimal, (List.forall_mem_cons.2 ⟨ok_impl_pictured k, (List.forall_mem_nil _)⟩)⟩)⟩)⟩) (List.forall_mem_nil _) ⟨⟨Tryd.f9, (codeOf Tryd.f9), [.tmp 2, .tmp 3], (impl_GraphPicture_O k), by kernel_rfl, by kernel_rfl, by kernel_rfl, by kernel_rfl, rfl, by decide, ⟨by kernel_rfl, ?_, ?_⟩, ?_⟩⟩
  · refine loops_of (n := 2) (by kernel_rfl) fun i hi => ?_
    match i, hi with
    | 0, _ => exact loop_of (by kernel_rfl) (impl_GraphPicture_l0_ok k)
    | 1, _ => exact loop_of (by kernel_rfl) (impl_GraphPicture_l1_ok k)
    | n + 2, hi => omega
  · exact no_cuts (by kernel_rfl)
  · rintro g0
    kernel_rfl
/- 10 loop.example/g01005/laws.eqStringS -/
def laws_eqStringS_l0 (k : Nat) : Nat → (List (List UInt8)) → (List (List UInt8)) → Int → (Option Bool) → Option Bool
  | 0, _, _, _, _ => none
  | n + 1, a0, b1, i5, e_0 => (if (decide (i5 < (List.length a0 : Int))) = true then (if 0 ≤ i5 then (a0[i5.toNat]?).bind fun y_1 => (if 0 ≤ i5 then (b1[i5.toNat]?).bind fun y_2 => (if (!(decide (y_1 = y_2))) = true then some false else laws_eqStringS_l0 k n a0 b1 (w_i64 (i5 + 1)) e_0) else none) else none) else e_0)
def laws_eqStringS (k : Nat) (a0 : List (List UInt8)) (b1 : List (List UInt8)) : Option Bool := (if (!(decide ((List.length a0 : Int) = (List.length b1 : Int)))) = true then some false else laws_eqStringS_l0 k k a0 b1 0 (some true))
def laws_eqStringS_l0_h : Head := ⟨[(0, (.val (.sl 9 .str))), (1, (.val (.sl 9 .str))), (5, (.val (.int .i64)))], [], []⟩
def laws_eqStringS_l0_x0 : Head := ⟨[], [], []⟩
def laws_eqStringS_l0_F (k n : Nat) (x : laws_eqStringS_l0_h.T) (kx : Nat → St → Option Bool) : Option Bool := laws_eqStringS_l0 k n x.1.1 x.1.2.1 x.1.2.2.1 (kx 0 (laws_eqStringS_l0_x0.fill ((), (), ())))
def laws_eqStringS_O (k : Nat) : Oracles Bool := ⟨fun n => bif Nat.beq n 4 then some (fun σ kx => laws_eqStringS_l0_h.get σ fun x => laws_eqStringS_l0_F k k x kx) else none, fun _ => none⟩
def fe_laws_eqStringS (k : Nat) : FE := ⟨(.pr (.sl 9 .str) (.sl 9 .str)), 1, .bool, fun x => laws_eqStringS k x.1 x.2⟩
theorem laws_eqStringS_l0_ok (k : Nat) : LoopOK (mkEnv ti [] (lk []) pins0 pinB0) (laws_eqStringS_O k) (rdC (mkEnv ti [] (lk []) pins0 pinB0) [.tmp 4] .bool) ((loopsOf (codeOf Tryd.f10)).getD 0 .skip) (fun σ kx => laws_eqStringS_l0_h.get σ fun x => laws_eqStringS_l0_F k k x kx) := by
  refine ⟨laws_eqStringS_l0_h, [(0, laws_eqStringS_l0_x0)], fun n x kx => laws_eqStringS_l0_F k n x kx, k, by kernel_rfl, by kernel_rfl, fun x kx => by kernel_rfl, ?_, fun σ kx => rfl⟩
  rintro n ⟨⟨a0, b1, i5, ⟨⟩⟩, ⟨⟩, ⟨⟩⟩ kx
  kernel_rfl
theorem ok_laws_eqStringS (k : Nat) : FnOK Tryd.prog 10 (fe_laws_eqStringS k) := by
  refine closed_ok (tab := []) (l := []) ti_ok ti_ht mix (List.forall_mem_nil _) (List.forall_mem_nil _) ⟨⟨Tryd.f10, (codeOf Tryd.f10), [.tmp 4], (laws_eqStringS_O k), by kernel_rfl, by kernel_rfl, by kernel_rfl, by kernel_rfl, rfl, by decide, ⟨by kernel_rfl, ?_, ?_⟩, ?_⟩⟩
  · refine loops_of (n := 1) (by kernel_rfl) fun i hi => ?_
    match i, hi with
    | 0, _ => exact loop_of (by kernel_rfl) (laws_eqStringS_l0_ok k)
    | n + 1, hi => omega
  · exact no_cuts (by kernel_rfl)
  · rintro ⟨a0, b1⟩
    kernel_rfl
/- 65 loop.example/g01005/laws.eqEdge -/
def laws_eqEdge (a0 : Int × Int × Int) (b1 : Int × Int × Int) : Option Bool := (if (!(decide (a0.1 = b1.1))) = true then some false else (if (!(decide (a0.2.1 = b1.2.1))) = true then some false else (if (!(decide (a0.2.2 = b1.2.2))) = true then some false else some true)))
def fe_laws_eqEdge : FE := ⟨(.pr (.st (.pr (.int .i64) (.pr (.int .i64) (.int .i64)))) (.st (.pr (.int .i64) (.pr (.int .i64) (.int .i64))))), 1, .bool, fun x => laws_eqEdge x.1 x.2⟩
theorem ok_laws_eqEdge : FnOK Tryd.prog 65 (fe_laws_eqEdge) := by
  refine closed_ok (tab := []) (l := []) ti_ok ti_ht mix (List.forall_mem_nil _) (List.forall_mem_nil _) ⟨⟨Tryd.f65, (codeOf Tryd.f65), [.tmp 4], (LOn Bool), by kernel_rfl, by kernel_rfl, by kernel_rfl, by kernel_rfl, rfl, by decide, ⟨by kernel_rfl, ?_, ?_⟩, ?_⟩⟩
  · exact no_loops (by kernel_rfl)
  · exact no_cuts (by kernel_rfl)
  · rintro ⟨a0, b1⟩
    kernel_rfl
/- 36 loop.example/g01005/laws.eqEdgeS -/
def laws_eqEdgeS_l0 (k : Nat) : Nat → (List (Int × Int × Int)) → (List (Int × Int × Int)) → Int → (Option Bool) → Option Bool
  | 0, _, _, _, _ => none
  | n + 1, a0, b1, i5, e_0 => (if (decide (i5 < (List.length a0 : Int))) = true then (if 0 ≤ i5 then (a0[i5.toNat]?).bind fun y_1 => (if 0 ≤ i5 then (b1[i5.toNat]?).bind fun y_2 => (laws_eqEdge y_1 y_2).bind fun r_3 => (if (!r_3) = true then some false else laws_eqEdgeS_l0 k n a0 b1 (w_i64 (i5 + 1)) e_0) else none) else none) else e_0)
def laws_eqEdgeS (k : Nat) (a0 : List (Int × Int × Int)) (b1 : List (Int × Int × Int)) : Option Bool := (if (!(decide ((List.length a0 : Int) = (List.length b1 : Int)))) = true then some false else laws_eqEdgeS_l0 k k a0 b1 0 (some true))
def laws_eqEdgeS_l0_h : Head := ⟨[(0, (.val (.sl 99 (.st (.pr (.int .i64) (.pr (.int .i64) (.int .i64))))))), (1, (.val (.sl 99 (.st (.pr (.int .i64) (.pr (.int .i64) (.int .i64))))))), (5, (.val (.int .i64)))], [], []⟩
def laws_eqEdgeS_l0_x0 : Head := ⟨[], [], []⟩
def laws_eqEdgeS_l0_F (k n : Nat) (x : laws_eqEdgeS_l0_h.T) (kx : Nat → St → Option Bool) : Option Bool := laws_eqEdgeS_l0 k n x.1.1 x.1.2.1 x.1.2.2.1 (kx 0 (laws_eqEdgeS_l0_x0.fill ((), (), ())))
def laws_eqEdgeS_O (k : Nat) : Oracles Bool := ⟨fun n => bif Nat.beq n 4 then some (fun σ kx => laws_eqEdgeS_l0_h.get σ fun x => laws_eqEdgeS_l0_F k k x kx) else none, fun _ => none⟩
def fe_laws_eqEdgeS (k : Nat) : FE := ⟨(.pr (.sl 99 (.st (.pr (.int .i64) (.pr (.int .i64) (.int .i64))))) (.sl 99 (.st (.pr (.int .i64) (.pr (.int .i64) (.int .i64)))))), 1, .bool, fun x => laws_eqEdgeS k x.1 x.2⟩
theorem laws_eqEdgeS_l0_ok (k : Nat) : LoopOK (mkEnv ti [(65, fe_laws_eqEdge)] (lk []) pins0 pinB0) (laws_eqEdgeS_O k) (rdC (mkEnv ti [(65, fe_laws_eqEdge)] (lk []) pins0 pinB0) [.tmp 4] .bool) ((loopsOf (codeOf Tryd.f36)).getD 0 .skip) (fun σ kx => laws_eqEdgeS_l0_h.get σ fun x => laws_eqEdgeS_l0_F k k x kx) := by
  refine ⟨laws_eqEdgeS_l0_h, [(0, laws_eqEdgeS_l0_x0)], fun n x kx => laws_eqEdgeS_l0_F k n x kx, k, by kernel_rfl, by kernel_rfl, fun x kx => by kernel_rfl, ?_, fun σ kx => rfl⟩
  rintro n ⟨⟨a0, b1, i5, ⟨⟩⟩, ⟨⟩, ⟨⟩⟩ kx
  kernel_rfl
theorem ok_laws_eqEdgeS (k : Nat) : FnOK Tryd.prog 36 (fe_laws_eqEdgeS k) := by
  refine closed_ok (tab := [(65, fe_laws_eqEdge)]) (l := []) ti_ok ti_ht mix (List.forall_mem_cons.2 ⟨ok_laws_eqEdge, (List.forall_mem_nil _)⟩) (List.forall_mem_nil _) ⟨⟨Tryd.f36, (codeOf Tryd.f36), [.tmp 4], (laws_eqEdgeS_O k), by kernel_rfl, by kernel_rfl, by kernel_rfl, by kernel_rfl, rfl, by decide, ⟨by kernel_rfl, ?_, ?_⟩, ?_⟩⟩
  · refine loops_of (n := 1) (by kernel_rfl) fun i hi => ?_
    match i, hi with
    | 0, _ => exact loop_of (by kernel_rfl) (laws_eqEdgeS_l0_ok k)
    | n + 1, hi => omega
  · exact no_cuts (by kernel_rfl)
  · rintro ⟨a0, b1⟩
    kernel_rfl
end
end Go.Proofs.YtackggcodaolaaaDoor.Ev
