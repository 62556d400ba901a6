/- Functions of the program, as plain ones. No conditions. -/
import Derived.Test.YtankbidchgcapaaGreatG5
import Derived.KernelRfl
set_option linter.unusedVariables false
set_option maxRecDepth 100000
namespace Go.Proofs.YtankbidchgcapaaGreat.Ev
open Go.RowKit
noncomputable section
/- 20 loop.example/g01005/impl.ValidNetwork -/
def impl_ValidNetwork_l0 (k : Nat) : Nat → (List (Int × Int × Int)) → Int → Int → (Int × Int × Int × List (Int × Int × Int)) → ((Int × Int × Int × List (Int × Int × Int)) → Option Bool) → Option Bool
  | 0, _, _, _, _, _ => none
  | n + 1, x6, x7, x8, v_1, e_0 => (if (decide (x8 < x7)) = true then (if 0 ≤ x8 then (x6[x8.toNat]?).bind fun y_1 => (impl_isElement y_1.1 v_1.1).bind fun r_2 => (if (!r_2) = true then some false else (impl_isElement y_1.2.1 v_1.1).bind fun r_3 => (if (!r_3) = true then some false else (if (decide (y_1.1 = y_1.2.1)) = true then some false else (impl_within y_1.2.2 0 1000000).bind fun r_4 => (if (!r_4) = true then some false else (if (decide (0 < x8)) = true then (if 0 ≤ (w_i64 (x8 - 1)) then (v_1.2.2.2[(w_i64 (x8 - 1)).toNat]?).bind fun y_5 => (cmp_Compare_int64 y_5.1 y_1.1).bind fun r_6 => (if 0 ≤ (w_i64 (x8 - 1)) then (v_1.2.2.2[(w_i64 (x8 - 1)).toNat]?).bind fun y_7 => (cmp_Compare_int64 y_7.2.1 y_1.2.1).bind fun r_8 => (cmp_Or_int k [r_6, r_8]).bind fun r_9 => (if (decide (0 ≤ r_9)) = true then some false else impl_ValidNetwork_l0 k n x6 x7 (w_i64 (x8 + 1)) v_1 e_0) else none) else none) else impl_ValidNetwork_l0 k n x6 x7 (w_i64 (x8 + 1)) v_1 e_0))))) else none) else e_0 v_1)
def impl_ValidNetwork (k : Nat) (n0 : Int × Int × Int × List (Int × Int × Int)) : Option Bool := impl_ValidNetwork_l0 k k n0.2.2.2 (List.length n0.2.2.2 : Int) 0 n0 (fun v_10 => (impl_within v_10.1 2 12).bind fun r_11 => (if r_11 = true then (impl_isElement v_10.2.1 v_10.1).bind fun r_12 => (if r_12 = true then (impl_isElement v_10.2.2.1 v_10.1).bind fun r_13 => (if r_13 = true then (if (!(decide (v_10.2.1 = v_10.2.2.1))) = true then some (decide ((List.length v_10.2.2.2 : Int) ≤ 24)) else some false) else some false) else some false) else some false))
def impl_ValidNetwork_l0_h : Head := ⟨[(1, (.bp 1 [] 0)), (6, (.val (.sl 103 (.st (.pr (.int .i64) (.pr (.int .i64) (.int .i64))))))), (7, (.val (.int .i64))), (8, (.val (.int .i64)))], [], [(1, 45, (.val (.st (.pr (.int .i64) (.pr (.int .i64) (.pr (.int .i64) (.sl 103 (.st (.pr (.int .i64) (.pr (.int .i64) (.int .i64)))))))))))]⟩
def impl_ValidNetwork_l0_x0 : Head := ⟨[(1, (.bp 1 [] 0))], [], [(1, 45, (.val (.st (.pr (.int .i64) (.pr (.int .i64) (.pr (.int .i64) (.sl 103 (.st (.pr (.int .i64) (.pr (.int .i64) (.int .i64)))))))))))]⟩
def impl_ValidNetwork_l0_F (k n : Nat) (x : impl_ValidNetwork_l0_h.T) (kx : Nat → St → Option Bool) : Option Bool := impl_ValidNetwork_l0 k n x.1.2.1 x.1.2.2.1 x.1.2.2.2.1 x.2.2.1 (fun (v_1 : Int × Int × Int × List (Int × Int × Int)) => kx 0 (impl_ValidNetwork_l0_x0.fill (((), ()), (), (v_1, ()))))
def impl_ValidNetwork_O (k : Nat) : Oracles Bool := ⟨fun n => bif Nat.beq n 2 then some (fun σ kx => impl_ValidNetwork_l0_h.get σ fun x => impl_ValidNetwork_l0_F k k x kx) else none, fun _ => none⟩
def fe_impl_ValidNetwork (k : Nat) : FE := ⟨(.st (.pr (.int .i64) (.pr (.int .i64) (.pr (.int .i64) (.sl 103 (.st (.pr (.int .i64) (.pr (.int .i64) (.int .i64))))))))), 1, .bool, fun x => impl_ValidNetwork k x⟩
theorem impl_ValidNetwork_l0_ok (k : Nat) : LoopOK (mkEnv ti [(50, fe_impl_isElement), (49, fe_impl_within), (52, fe_cmp_Compare_int64), (51, fe_cmp_Or_int k)] (lk []) pins0 pinB0) (impl_ValidNetwork_O k) (rdC (mkEnv ti [(50, fe_impl_isElement), (49, fe_impl_within), (52, fe_cmp_Compare_int64), (51, fe_cmp_Or_int k)] (lk []) pins0 pinB0) [.tmp 2] .bool) ((loopsOf (codeOf Tryz.f20)).getD 0 .skip) (fun σ kx => impl_ValidNetwork_l0_h.get σ fun x => impl_ValidNetwork_l0_F k k x kx) := by
  refine ⟨impl_ValidNetwork_l0_h, [(0, impl_ValidNetwork_l0_x0)], fun n x kx => impl_ValidNetwork_l0_F k n x kx, k, by kernel_rfl, by kernel_rfl, fun x kx => by kernel_rfl, ?_, fun σ kx => rfl⟩
  rintro n ⟨⟨⟨⟩, x6, x7, x8, ⟨⟩⟩, ⟨⟩, ⟨v_1, ⟨⟩⟩⟩ kx
  kernel_rfl
theorem ok_impl_ValidNetwork (k : Nat) : FnOK Tryz.prog 20 (fe_impl_ValidNetwork k) := by
  refine closed_ok (tab := [(50, fe_impl_isElement), (49, fe_impl_within), (52, fe_cmp_Compare_int64), (51, fe_cmp_Or_int k)]) (l := []) ti_ok ti_ht mix (List.forall_mem_cons.2 ⟨ok_impl_isElement, (List.forall_mem_cons.2 ⟨ok_impl_within, (List.forall_mem_cons.2 ⟨ok_cmp_Compare_int64, (List.forall_mem_cons.2 ⟨ok_cmp_Or_int k, (List.forall_mem_nil _)⟩)⟩)⟩)⟩) (List.forall_mem_nil _) ⟨⟨Tryz.f20, (codeOf Tryz.f20), [.tmp 2], (impl_ValidNetwork_O k), by kernel_rfl, by kernel_rfl, by kernel_rfl, by kernel_rfl, rfl, by decide, ⟨by kernel_rfl, ?_, ?_⟩, ?_⟩⟩
  · refine loops_of (n := 1) (by kernel_rfl) fun i hi => ?_
    match i, hi with
    | 0, _ => exact loop_of (by kernel_rfl) (impl_ValidNetwork_l0_ok k)
    | n + 1, hi => omega
  · exact no_cuts (by kernel_rfl)
  · rintro n0
    kernel_rfl
/- 21 loop.example/g01005/impl.ValidPhases -/
def impl_ValidPhases_l0 (k : Nat) : Nat → (List (Int × Int × Int)) → Int → Int → (Int × Int × List (Int × Int × Int)) → ((Int × Int × List (Int × Int × Int)) → Option Bool) → Option Bool
  | 0, _, _, _, _, _ => none
  | n + 1, x6, x7, x8, v_1, e_0 => (if (decide (x8 < x7)) = true then (if 0 ≤ x8 then (x6[x8.toNat]?).bind fun y_1 => (if (decide (y_1.1 < 0)) = true then some false else (if (decide (y_1.2.1 ≤ y_1.1)) = true then some false else (if (decide (v_1.1 ≤ y_1.2.1)) = true then some false else (impl_isElement y_1.2.2 v_1.2.1).bind fun r_2 => (if (!r_2) = true then some false else (if (decide (0 < x8)) = true then (if 0 ≤ (w_i64 (x8 - 1)) then (v_1.2.2[(w_i64 (x8 - 1)).toNat]?).bind fun y_3 => (cmp_Compare_int64 y_3.1 y_1.1).bind fun r_4 => (if 0 ≤ (w_i64 (x8 - 1)) then (v_1.2.2[(w_i64 (x8 - 1)).toNat]?).bind fun y_5 => (cmp_Compare_int64 y_5.2.1 y_1.2.1).bind fun r_6 => (cmp_Or_int k [r_4, r_6]).bind fun r_7 => (if (decide (0 ≤ r_7)) = true then some false else impl_ValidPhases_l0 k n x6 x7 (w_i64 (x8 + 1)) v_1 e_0) else none) else none) else impl_ValidPhases_l0 k n x6 x7 (w_i64 (x8 + 1)) v_1 e_0))))) else none) else e_0 v_1)
def impl_ValidPhases (k : Nat) (x0 : Int × Int × List (Int × Int × Int)) : Option Bool := impl_ValidPhases_l0 k k x0.2.2 (List.length x0.2.2 : Int) 0 x0 (fun v_8 => (impl_within v_8.1 1 12).bind fun r_9 => (if r_9 = true then (impl_within v_8.2.1 2 360).bind fun r_10 => (if r_10 = true then some (decide ((List.length v_8.2.2 : Int) ≤ 24)) else some false) else some false))
def impl_ValidPhases_l0_h : Head := ⟨[(1, (.bp 1 [] 0)), (6, (.val (.sl 108 (.st (.pr (.int .i64) (.pr (.int .i64) (.int .i64))))))), (7, (.val (.int .i64))), (8, (.val (.int .i64)))], [], [(1, 48, (.val (.st (.pr (.int .i64) (.pr (.int .i64) (.sl 108 (.st (.pr (.int .i64) (.pr (.int .i64) (.int .i64))))))))))]⟩
def impl_ValidPhases_l0_x0 : Head := ⟨[(1, (.bp 1 [] 0))], [], [(1, 48, (.val (.st (.pr (.int .i64) (.pr (.int .i64) (.sl 108 (.st (.pr (.int .i64) (.pr (.int .i64) (.int .i64))))))))))]⟩
def impl_ValidPhases_l0_F (k n : Nat) (x : impl_ValidPhases_l0_h.T) (kx : Nat → St → Option Bool) : Option Bool := impl_ValidPhases_l0 k n x.1.2.1 x.1.2.2.1 x.1.2.2.2.1 x.2.2.1 (fun (v_1 : Int × Int × List (Int × Int × Int)) => kx 0 (impl_ValidPhases_l0_x0.fill (((), ()), (), (v_1, ()))))
def impl_ValidPhases_O (k : Nat) : Oracles Bool := ⟨fun n => bif Nat.beq n 2 then some (fun σ kx => impl_ValidPhases_l0_h.get σ fun x => impl_ValidPhases_l0_F k k x kx) else none, fun _ => none⟩
def fe_impl_ValidPhases (k : Nat) : FE := ⟨(.st (.pr (.int .i64) (.pr (.int .i64) (.sl 108 (.st (.pr (.int .i64) (.pr (.int .i64) (.int .i64)))))))), 1, .bool, fun x => impl_ValidPhases k x⟩
theorem impl_ValidPhases_l0_ok (k : Nat) : LoopOK (mkEnv ti [(50, fe_impl_isElement), (52, fe_cmp_Compare_int64), (51, fe_cmp_Or_int k), (49, fe_impl_within)] (lk []) pins0 pinB0) (impl_ValidPhases_O k) (rdC (mkEnv ti [(50, fe_impl_isElement), (52, fe_cmp_Compare_int64), (51, fe_cmp_Or_int k), (49, fe_impl_within)] (lk []) pins0 pinB0) [.tmp 2] .bool) ((loopsOf (codeOf Tryz.f21)).getD 0 .skip) (fun σ kx => impl_ValidPhases_l0_h.get σ fun x => impl_ValidPhases_l0_F k k x kx) := by
  refine ⟨impl_ValidPhases_l0_h, [(0, impl_ValidPhases_l0_x0)], fun n x kx => impl_ValidPhases_l0_F k n x kx, k, by kernel_rfl, by kernel_rfl, fun x kx => by kernel_rfl, ?_, fun σ kx => rfl⟩
  rintro n ⟨⟨⟨⟩, x6, x7, x8, ⟨⟩⟩, ⟨⟩, ⟨v_1, ⟨⟩⟩⟩ kx
  kernel_rfl
theorem ok_impl_ValidPhases (k : Nat) : FnOK Tryz.prog 21 (fe_impl_ValidPhases k) := by
  refine closed_ok (tab := [(50, fe_impl_isElement), (52, fe_cmp_Compare_int64), (51, fe_cmp_Or_int k), (49, fe_impl_within)]) (l := []) ti_ok ti_ht mix (List.forall_mem_cons.2 ⟨ok_impl_isElement, (List.forall_mem_cons.2 ⟨ok_cmp_Compare_int64, (List.forall_mem_cons.2 ⟨ok_cmp_Or_int k, (List.forall_mem_cons.2 ⟨ok_impl_within, (List.forall_mem_nil _)⟩)⟩)⟩)⟩) (List.forall_mem_nil _) ⟨⟨Tryz.f21, (codeOf Tryz.f21), [.tmp 2], (impl_ValidPhases_O k), by kernel_rfl, by kernel_rfl, by kernel_rfl, by kernel_rfl, rfl, by decide, ⟨by kernel_rfl, ?_, ?_⟩, ?_⟩⟩
  · refine loops_of (n := 1) (by kernel_rfl) fun i hi => ?_
    match i, hi with
    | 0, _ => exact loop_of (by kernel_rfl) (impl_ValidPhases_l0_ok k)
    | n + 1, hi => omega
  · exact no_cuts (by kernel_rfl)
  · rintro x0
    kernel_rfl
/- 22 loop.example/g01005/impl.isVector -/
def impl_isVector (k : Nat) (x0 : List Int) (length1 : Int) (p2 : Int) : Option Bool := (impl_size_int64 x0).bind fun r_1 => (if (decide (r_1 = length1)) = true then (impl_areElements k x0 p2).bind fun r_2 => some r_2 else some false)
def fe_impl_isVector (k : Nat) : FE := ⟨(.pr (.sl 2 (.int .i64)) (.pr (.int .i64) (.int .i64))), 1, .bool, fun x => impl_isVector k x.1 x.2.1 x.2.2⟩
theorem ok_impl_isVector (k : Nat) : FnOK Tryz.prog 22 (fe_impl_isVector k) := by
  refine closed_ok (tab := [(53, fe_impl_size_int64), (54, fe_impl_areElements k)]) (l := []) ti_ok ti_ht mix (List.forall_mem_cons.2 ⟨ok_impl_size_int64, (List.forall_mem_cons.2 ⟨ok_impl_areElements k, (List.forall_mem_nil _)⟩)⟩) (List.forall_mem_nil _) ⟨⟨Tryz.f22, (codeOf Tryz.f22), [.tmp 6], (LOn Bool), by kernel_rfl, by kernel_rfl, by kernel_rfl, by kernel_rfl, rfl, by decide, ⟨by kernel_rfl, ?_, ?_⟩, ?_⟩⟩
  · exact no_loops (by kernel_rfl)
  · exact no_cuts (by kernel_rfl)
  · rintro ⟨x0, length1, p2⟩
    kernel_rfl
/- 24 loop.example/g01005/impl.arePhases -/
def impl_arePhases (k : Nat) (x0 : Int × Int × List (Int × Int × Int)) (phases1 : List Int) : Option Bool := (impl_isVector k phases1 x0.1 x0.2.1).bind fun r_1 => some r_1
def fe_impl_arePhases (k : Nat) : FE := ⟨(.pr (.st (.pr (.int .i64) (.pr (.int .i64) (.sl 108 (.st (.pr (.int .i64) (.pr (.int .i64) (.int .i64)))))))) (.sl 2 (.int .i64))), 1, .bool, fun x => impl_arePhases k x.1 x.2⟩
theorem ok_impl_arePhases (k : Nat) : FnOK Tryz.prog 24 (fe_impl_arePhases k) := by
  refine closed_ok (tab := [(22, fe_impl_isVector k)]) (l := []) ti_ok ti_ht mix (List.forall_mem_cons.2 ⟨ok_impl_isVector k, (List.forall_mem_nil _)⟩) (List.forall_mem_nil _) ⟨⟨Tryz.f24, (codeOf Tryz.f24), [.tmp 4], (LOn Bool), by kernel_rfl, by kernel_rfl, by kernel_rfl, by kernel_rfl, rfl, by decide, ⟨by kernel_rfl, ?_, ?_⟩, ?_⟩⟩
  · exact no_loops (by kernel_rfl)
  · exact no_cuts (by kernel_rfl)
  · rintro ⟨x0, phases1⟩
    kernel_rfl
/- 7 loop.example/g01005/impl.ValidWork -/
def impl_ValidWork (k : Nat) (w0 : (List (List Int) × Int × List Int × List (Int × Int × Int × List Int)) × Int × List Int × List Int × (Int × Int × Int × List (Int × Int × Int)) × List Int × List Int × (Int × Int × List (Int × Int × Int)) × List Int) : Option Bool := (impl_ValidSheaf k w0.1).bind fun r_1 => (if (!r_1) = true then some false else (impl_isDimension w0.2.1).bind fun r_2 => (if (!r_2) = true then some false else (impl_ValidNetwork k w0.2.2.2.2.1).bind fun r_3 => (if (!r_3) = true then some false else (impl_ValidPhases k w0.2.2.2.2.2.2.2.1).bind fun r_4 => (if (!r_4) = true then some false else (impl_stalkSum k w0.1 w0.2.1).bind fun r_5 => (impl_isVector k w0.2.2.1 r_5 w0.1.2.1).bind fun r_6 => (if r_6 = true then (impl_stalkSum k w0.1 0).bind fun r_7 => (impl_isVector k w0.2.2.2.1 r_7 w0.1.2.1).bind fun r_8 => (if r_8 = true then (impl_arePhases k w0.2.2.2.2.2.2.2.1 w0.2.2.2.2.2.2.2.2).bind fun r_9 => some r_9 else some false) else some false)))))
def fe_impl_ValidWork (k : Nat) : FE := ⟨(.st (.pr (.st (.pr (.st (.sl 25 (.sl 2 (.int .i64)))) (.pr (.int .i64) (.pr (.sl 2 (.int .i64)) (.sl 100 (.st (.pr (.int .i64) (.pr (.int .i64) (.pr (.int .i64) (.sl 2 (.int .i64))))))))))) (.pr (.int .i64) (.pr (.sl 2 (.int .i64)) (.pr (.sl 2 (.int .i64)) (.pr (.st (.pr (.int .i64) (.pr (.int .i64) (.pr (.int .i64) (.sl 103 (.st (.pr (.int .i64) (.pr (.int .i64) (.int .i64))))))))) (.pr (.sl 2 (.int .i64)) (.pr (.sl 2 (.int .i64)) (.pr (.st (.pr (.int .i64) (.pr (.int .i64) (.sl 108 (.st (.pr (.int .i64) (.pr (.int .i64) (.int .i64)))))))) (.sl 2 (.int .i64))))))))))), 1, .bool, fun x => impl_ValidWork k x⟩
theorem ok_impl_ValidWork (k : Nat) : FnOK Tryz.prog 7 (fe_impl_ValidWork k) := by
  refine closed_ok (tab := [(18, fe_impl_ValidSheaf k), (19, fe_impl_isDimension), (20, fe_impl_ValidNetwork k), (21, fe_impl_ValidPhases k), (23, fe_impl_stalkSum k), (22, fe_impl_isVector k), (24, fe_impl_arePhases k)]) (l := []) ti_ok ti_ht mix (List.forall_mem_cons.2 ⟨ok_impl_ValidSheaf k, (List.forall_mem_cons.2 ⟨ok_impl_isDimension, (List.forall_mem_cons.2 ⟨ok_impl_ValidNetwork k, (List.forall_mem_cons.2 ⟨ok_impl_ValidPhases k, (List.forall_mem_cons.2 ⟨ok_impl_stalkSum k, (List.forall_mem_cons.2 ⟨ok_impl_isVector k, (List.forall_mem_cons.2 ⟨ok_impl_arePhases k, (List.forall_mem_nil _)⟩)⟩)⟩)⟩)⟩)⟩)⟩) (List.forall_mem_nil _) ⟨⟨Tryz.f7, (codeOf Tryz.f7), [.tmp 2], (LOn Bool), by kernel_rfl, by kernel_rfl, by kernel_rfl, by kernel_rfl, rfl, by decide, ⟨by kernel_rfl, ?_, ?_⟩, ?_⟩⟩
  · exact no_loops (by kernel_rfl)
  · exact no_cuts (by kernel_rfl)
  · rintro w0
    kernel_rfl
/- 26 loop.example/g01005/laws.eqInt64S -/
def laws_eqInt64S_l0 (k : Nat) : Nat → (List Int) → (List Int) → Int → (Option Bool) → Option Bool
  | 0, _, _, _, _ => none
  | n + 1, a0, b1, i5, e_0 => (if (decide (i5 < (List.length a0 : Int))) = true then (if 0 ≤ i5 then (a0[i5.toNat]?).bind fun y_1 => (if 0 ≤ i5 then (b1[i5.toNat]?).bind fun y_2 => (if (!(decide (y_1 = y_2))) = true then some false else laws_eqInt64S_l0 k n a0 b1 (w_i64 (i5 + 1)) e_0) else none) else none) else e_0)
def laws_eqInt64S (k : Nat) (a0 : List Int) (b1 : List Int) : Option Bool := (if (!(decide ((List.length a0 : Int) = (List.length b1 : Int)))) = true then some false else laws_eqInt64S_l0 k k a0 b1 0 (some true))
def laws_eqInt64S_l0_h : Head := ⟨[(0, (.val (.sl 2 (.int .i64)))), (1, (.val (.sl 2 (.int .i64)))), (5, (.val (.int .i64)))], [], []⟩
def laws_eqInt64S_l0_x0 : Head := ⟨[], [], []⟩
def laws_eqInt64S_l0_F (k n : Nat) (x : laws_eqInt64S_l0_h.T) (kx : Nat → St → Option Bool) : Option Bool := laws_eqInt64S_l0 k n x.1.1 x.1.2.1 x.1.2.2.1 (kx 0 (laws_eqInt64S_l0_x0.fill ((), (), ())))
def laws_eqInt64S_O (k : Nat) : Oracles Bool := ⟨fun n => bif Nat.beq n 4 then some (fun σ kx => laws_eqInt64S_l0_h.get σ fun x => laws_eqInt64S_l0_F k k x kx) else none, fun _ => none⟩
def fe_laws_eqInt64S (k : Nat) : FE := ⟨(.pr (.sl 2 (.int .i64)) (.sl 2 (.int .i64))), 1, .bool, fun x => laws_eqInt64S k x.1 x.2⟩
theorem laws_eqInt64S_l0_ok (k : Nat) : LoopOK (mkEnv ti [] (lk []) pins0 pinB0) (laws_eqInt64S_O k) (rdC (mkEnv ti [] (lk []) pins0 pinB0) [.tmp 4] .bool) ((loopsOf (codeOf Tryz.f26)).getD 0 .skip) (fun σ kx => laws_eqInt64S_l0_h.get σ fun x => laws_eqInt64S_l0_F k k x kx) := by
  refine ⟨laws_eqInt64S_l0_h, [(0, laws_eqInt64S_l0_x0)], fun n x kx => laws_eqInt64S_l0_F k n x kx, k, by kernel_rfl, by kernel_rfl, fun x kx => by kernel_rfl, ?_, fun σ kx => rfl⟩
  rintro n ⟨⟨a0, b1, i5, ⟨⟩⟩, ⟨⟩, ⟨⟩⟩ kx
  kernel_rfl
theorem ok_laws_eqInt64S (k : Nat) : FnOK Tryz.prog 26 (fe_laws_eqInt64S k) := by
  refine closed_ok (tab := []) (l := []) ti_ok ti_ht mix (List.forall_mem_nil _) (List.forall_mem_nil _) ⟨⟨Tryz.f26, (codeOf Tryz.f26), [.tmp 4], (laws_eqInt64S_O k), by kernel_rfl, by kernel_rfl, by kernel_rfl, by kernel_rfl, rfl, by decide, ⟨by kernel_rfl, ?_, ?_⟩, ?_⟩⟩
  · refine loops_of (n := 1) (by kernel_rfl) fun i hi => ?_
    match i, hi with
    | 0, _ => exact loop_of (by kernel_rfl) (laws_eqInt64S_l0_ok k)
    | n + 1, hi => omega
  · exact no_cuts (by kernel_rfl)
  · rintro ⟨a0, b1⟩
    kernel_rfl
/- 87 loop.example/g01005/laws.eqInt64SS -/
def laws_eqInt64SS_l0 (k : Nat) : Nat → (List (List Int)) → (List (List Int)) → Int → (Option Bool) → Option Bool
  | 0, _, _, _, _ => none
  | n + 1, a0, b1, i5, e_0 => (if (decide (i5 < (List.length a0 : Int))) = true then (if 0 ≤ i5 then (a0[i5.toNat]?).bind fun y_1 => (if 0 ≤ i5 then (b1[i5.toNat]?).bind fun y_2 => (laws_eqInt64S k y_1 y_2).bind fun r_3 => (if (!r_3) = true then some false else laws_eqInt64SS_l0 k n a0 b1 (w_i64 (i5 + 1)) e_0) else none) else none) else e_0)
def laws_eqInt64SS (k : Nat) (a0 : List (List Int)) (b1 : List (List Int)) : Option Bool := (if (!(decide ((List.length a0 : Int) = (List.length b1 : Int)))) = true then some false else laws_eqInt64SS_l0 k k a0 b1 0 (some true))
def laws_eqInt64SS_l0_h : Head := ⟨[(0, (.val (.sl 25 (.sl 2 (.int .i64))))), (1, (.val (.sl 25 (.sl 2 (.int .i64))))), (5, (.val (.int .i64)))], [], []⟩
def laws_eqInt64SS_l0_x0 : Head := ⟨[], [], []⟩
def laws_eqInt64SS_l0_F (k n : Nat) (x : laws_eqInt64SS_l0_h.T) (kx : Nat → St → Option Bool) : Option Bool := laws_eqInt64SS_l0 k n x.1.1 x.1.2.1 x.1.2.2.1 (kx 0 (laws_eqInt64SS_l0_x0.fill ((), (), ())))
def laws_eqInt64SS_O (k : Nat) : Oracles Bool := ⟨fun n => bif Nat.beq n 4 then some (fun σ kx => laws_eqInt64SS_l0_h.get σ fun x => laws_eqInt64SS_l0_F k k x kx) else none, fun _ => none⟩
def fe_laws_eqInt64SS (k : Nat) : FE := ⟨(.pr (.sl 25 (.sl 2 (.int .i64))) (.sl 25 (.sl 2 (.int .i64)))), 1, .bool, fun x => laws_eqInt64SS k x.1 x.2⟩
theorem laws_eqInt64SS_l0_ok (k : Nat) : LoopOK (mkEnv ti [(26, fe_laws_eqInt64S k)] (lk []) pins0 pinB0) (laws_eqInt64SS_O k) (rdC (mkEnv ti [(26, fe_laws_eqInt64S k)] (lk []) pins0 pinB0) [.tmp 4] .bool) ((loopsOf (codeOf Tryz.f87)).getD 0 .skip) (fun σ kx => laws_eqInt64SS_l0_h.get σ fun x => laws_eqInt64SS_l0_F k k x kx) := by
  refine ⟨laws_eqInt64SS_l0_h, [(0, laws_eqInt64SS_l0_x0)], fun n x kx => laws_eqInt64SS_l0_F k n x kx, k, by kernel_rfl, by kernel_rfl, fun x kx => by kernel_rfl, ?_, fun σ kx => rfl⟩
  rintro n ⟨⟨a0, b1, i5, ⟨⟩⟩, ⟨⟩, ⟨⟩⟩ kx
  kernel_rfl
theorem ok_laws_eqInt64SS (k : Nat) : FnOK Tryz.prog 87 (fe_laws_eqInt64SS k) := by
  refine closed_ok (tab := [(26, fe_laws_eqInt64S k)]) (l := []) ti_ok ti_ht mix (List.forall_mem_cons.2 ⟨ok_laws_eqInt64S k, (List.forall_mem_nil _)⟩) (List.forall_mem_nil _) ⟨⟨Tryz.f87, (codeOf Tryz.f87), [.tmp 4], (laws_eqInt64SS_O k), by kernel_rfl, by kernel_rfl, by kernel_rfl, by kernel_rfl, rfl, by decide, ⟨by kernel_rfl, ?_, ?_⟩, ?_⟩⟩
  · refine loops_of (n := 1) (by kernel_rfl) fun i hi => ?_
    match i, hi with
    | 0, _ => exact loop_of (by kernel_rfl) (laws_eqInt64SS_l0_ok k)
    | n + 1, hi => omega
  · exact no_cuts (by kernel_rfl)
  · rintro ⟨a0, b1⟩
    kernel_rfl
/- 56 loop.example/g01005/laws.eqComplex -/
def laws_eqComplex (k : Nat) (a0 : List (List Int)) (b1 : List (List Int)) : Option Bool := (laws_eqInt64SS k a0 b1).bind fun r_1 => (if (!r_1) = true then some false else some true)
def fe_laws_eqComplex (k : Nat) : FE := ⟨(.pr (.st (.sl 25 (.sl 2 (.int .i64)))) (.st (.sl 25 (.sl 2 (.int .i64))))), 1, .bool, fun x => laws_eqComplex k x.1 x.2⟩
theorem ok_laws_eqComplex (k : Nat) : FnOK Tryz.prog 56 (fe_laws_eqComplex k) := by
  refine closed_ok (tab := [(87, fe_laws_eqInt64SS k)]) (l := []) ti_ok ti_ht mix (List.forall_mem_cons.2 ⟨ok_laws_eqInt64SS k, (List.forall_mem_nil _)⟩) (List.forall_mem_nil _) ⟨⟨Tryz.f56, (codeOf Tryz.f56), [.tmp 4], (LOn Bool), by kernel_rfl, by kernel_rfl, by kernel_rfl, by kernel_rfl, rfl, by decide, ⟨by kernel_rfl, ?_, ?_⟩, ?_⟩⟩
  · exact no_loops (by kernel_rfl)
  · exact no_cuts (by kernel_rfl)
  · rintro ⟨a0, b1⟩
    kernel_rfl
/- 88 loop.example/g01005/laws.eqMatrix -/
def laws_eqMatrix (k : Nat) (a0 : Int × Int × Int × List Int) (b1 : Int × Int × Int × List Int) : Option Bool := (if (!(decide (a0.1 = b1.1))) = true then some false else (if (!(decide (a0.2.1 = b1.2.1))) = true then some false else (if (!(decide (a0.2.2.1 = b1.2.2.1))) = true then some false else (laws_eqInt64S k a0.2.2.2 b1.2.2.2).bind fun r_1 => (if (!r_1) = true then some false else some true))))
def fe_laws_eqMatrix (k : Nat) : FE := ⟨(.pr (.st (.pr (.int .i64) (.pr (.int .i64) (.pr (.int .i64) (.sl 2 (.int .i64)))))) (.st (.pr (.int .i64) (.pr (.int .i64) (.pr (.int .i64) (.sl 2 (.int .i64))))))), 1, .bool, fun x => laws_eqMatrix k x.1 x.2⟩
theorem ok_laws_eqMatrix (k : Nat) : FnOK Tryz.prog 88 (fe_laws_eqMatrix k) := by
  refine closed_ok (tab := [(26, fe_laws_eqInt64S k)]) (l := []) ti_ok ti_ht mix (List.forall_mem_cons.2 ⟨ok_laws_eqInt64S k, (List.forall_mem_nil _)⟩) (List.forall_mem_nil _) ⟨⟨Tryz.f88, (codeOf Tryz.f88), [.tmp 4], (LOn Bool), by kernel_rfl, by kernel_rfl, by kernel_rfl, by kernel_rfl, rfl, by decide, ⟨by kernel_rfl, ?_, ?_⟩, ?_⟩⟩
  · exact no_loops (by kernel_rfl)
  · exact no_cuts (by kernel_rfl)
  · rintro ⟨a0, b1⟩
    kernel_rfl
/- 57 loop.example/g01005/laws.eqMatrixS -/
def laws_eqMatrixS_l0 (k : Nat) : Nat → (List (Int × Int × Int × List Int)) → (List (Int × Int × Int × List Int)) → Int → (Option Bool) → Option Bool
  | 0, _, _, _, _ => none
  | n + 1, a0, b1, i5, e_0 => (if (decide (i5 < (List.length a0 : Int))) = true then (if 0 ≤ i5 then (a0[i5.toNat]?).bind fun y_1 => (if 0 ≤ i5 then (b1[i5.toNat]?).bind fun y_2 => (laws_eqMatrix k y_1 y_2).bind fun r_3 => (if (!r_3) = true then some false else laws_eqMatrixS_l0 k n a0 b1 (w_i64 (i5 + 1)) e_0) else none) else none) else e_0)
def laws_eqMatrixS (k : Nat) (a0 : List (Int × Int × Int × List Int)) (b1 : List (Int × Int × Int × List Int)) : Option Bool := (if (!(decide ((List.length a0 : Int) = (List.length b1 : Int)))) = true then some false else laws_eqMatrixS_l0 k k a0 b1 0 (some true))
def laws_eqMatrixS_l0_h : Head := ⟨[(0, (.val (.sl 100 (.st (.pr (.int .i64) (.pr (.int .i64) (.pr (.int .i64) (.sl 2 (.int .i64))))))))), (1, (.val (.sl 100 (.st (.pr (.int .i64) (.pr (.int .i64) (.pr (.int .i64) (.sl 2 (.int .i64))))))))), (5, (.val (.int .i64)))], [], []⟩
def laws_eqMatrixS_l0_x0 : Head := ⟨[], [], []⟩
def laws_eqMatrixS_l0_F (k n : Nat) (x : laws_eqMatrixS_l0_h.T) (kx : Nat → St → Option Bool) : Option Bool := laws_eqMatrixS_l0 k n x.1.1 x.1.2.1 x.1.2.2.1 (kx 0 (laws_eqMatrixS_l0_x0.fill ((), (), ())))
def laws_eqMatrixS_O (k : Nat) : Oracles Bool := ⟨fun n => bif Nat.beq n 4 then some (fun σ kx => laws_eqMatrixS_l0_h.get σ fun x => laws_eqMatrixS_l0_F k k x kx) else none, fun _ => none⟩
def fe_laws_eqMatrixS (k : Nat) : FE := ⟨(.pr (.sl 100 (.st (.pr (.int .i64) (.pr (.int .i64) (.pr (.int .i64) (.sl 2 (.int .i64))))))) (.sl 100 (.st (.pr (.int .i64) (.pr (.int .i64) (.pr (.int .i64) (.sl 2 (.int .i64)))))))), 1, .bool, fun x => laws_eqMatrixS k x.1 x.2⟩
theorem laws_eqMatrixS_l0_ok (k : Nat) : LoopOK (mkEnv ti [(88, fe_laws_eqMatrix k)] (lk []) pins0 pinB0) (laws_eqMatrixS_O k) (rdC (mkEnv ti [(88, fe_laws_eqMatrix k)] (lk []) pins0 pinB0) [.tmp 4] .bool) ((loopsOf (codeOf Tryz.f57)).getD 0 .skip) (fun σ kx => laws_eqMatrixS_l0_h.get σ fun x => laws_eqMatrixS_l0_F k k x kx) := by
  refine ⟨laws_eqMatrixS_l0_h, [(0, laws_eqMatrixS_l0_x0)], fun n x kx => laws_eqMatrixS_l0_F k n x kx, k, by kernel_rfl, by kernel_rfl, fun x kx => by kernel_rfl, ?_, fun σ kx => rfl⟩
  rintro n ⟨⟨a0, b1, i5, ⟨⟩⟩, ⟨⟩, ⟨⟩⟩ kx
  kernel_rfl
theorem ok_laws_eqMatrixS (k : Nat) : FnOK Tryz.prog 57 (fe_laws_eqMatrixS k) := by
  refine closed_ok (tab := [(88, fe_laws_eqMatrix k)]) (l := []) ti_ok ti_ht mix (List.forall_mem_cons.2 ⟨ok_laws_eqMatrix k, (List.forall_mem_nil _)⟩) (List.forall_mem_nil _) ⟨⟨Tryz.f57, (codeOf Tryz.f57), [.tmp 4], (laws_eqMatrixS_O k), by kernel_rfl, by kernel_rfl, by kernel_rfl, by kernel_rfl, rfl, by decide, ⟨by kernel_rfl, ?_, ?_⟩, ?_⟩⟩
  · refine loops_of (n := 1) (by kernel_rfl) fun i hi => ?_
    match i, hi with
    | 0, _ => exact loop_of (by kernel_rfl) (laws_eqMatrixS_l0_ok k)
    | n + 1, hi => omega
  · exact no_cuts (by kernel_rfl)
  · rintro ⟨a0, b1⟩
    kernel_rfl
/- 25 loop.example/g01005/laws.eqSheaf -/
def laws_eqSheaf (k : Nat) (a0 : List (List Int) × Int × List Int × List (Int × Int × Int × List Int)) (b1 : List (List Int) × Int × List Int × List (Int × Int × Int × List Int)) : Option Bool := (laws_eqComplex k a0.1 b1.1).bind fun r_1 => (if (!r_1) = true then some false else (if (!(decide (a0.2.1 = b1.2.1))) = true then some false else (laws_eqInt64S k a0.2.2.1 b1.2.2.1).bind fun r_2 => (if (!r_2) = true then some false else (laws_eqMatrixS k a0.2.2.2 b1.2.2.2).bind fun r_3 => (if (!r_3) = true then some false else some true))))
def fe_laws_eqSheaf (k : Nat) : FE := ⟨(.pr (.st (.pr (.st (.sl 25 (.sl 2 (.int .i64)))) (.pr (.int .i64) (.pr (.sl 2 (.int .i64)) (.sl 100 (.st (.pr (.int .i64) (.pr (.int .i64) (.pr (.int .i64) (.sl 2 (.int .i64))))))))))) (.st (.pr (.st (.sl 25 (.sl 2 (.int .i64)))) (.pr (.int .i64) (.pr (.sl 2 (.int .i64)) (.sl 100 (.st (.pr (.int .i64) (.pr (.int .i64) (.pr (.int .i64) (.sl 2 (.int .i64)))))))))))), 1, .bool, fun x => laws_eqSheaf k x.1 x.2⟩
theorem ok_laws_eqSheaf (k : Nat) : FnOK Tryz.prog 25 (fe_laws_eqSheaf k) := by
  refine closed_ok (tab := [(56, fe_laws_eqComplex k), (26, fe_laws_eqInt64S k), (57, fe_laws_eqMatrixS k)]) (l := []) ti_ok ti_ht mix (List.forall_mem_cons.2 ⟨ok_laws_eqComplex k, (List.forall_mem_cons.2 ⟨ok_laws_eqInt64S k, (List.forall_mem_cons.2 ⟨ok_laws_eqMatrixS k, (List.forall_mem_nil _)⟩)⟩)⟩) (List.forall_mem_nil _) ⟨⟨Tryz.f25, (codeOf Tryz.f25), [.tmp 4], (LOn Bool), by kernel_rfl, by kernel_rfl, by kernel_rfl, by kernel_rfl, rfl, by decide, ⟨by kernel_rfl, ?_, ?_⟩, ?_⟩⟩
  · exact no_loops (by kernel_rfl)
  · exact no_cuts (by kernel_rfl)
  · rintro ⟨a0, b1⟩
    kernel_rfl
/- 89 loop.example/g01005/laws.eqArc -/
def laws_eqArc (a0 : Int × Int × Int) (b1 : Int × Int × Int) : Option Bool := (if (!(decide (a0.1 = b1.1))) = true then some false else (if (!(decide (a0.2.1 = b1.2.1))) = true then some false else (if (!(decide (a0.2.2 = b1.2.2))) = true then some false else some true)))
def fe_laws_eqArc : FE := ⟨(.pr (.st (.pr (.int .i64) (.pr (.int .i64) (.int .i64)))) (.st (.pr (.int .i64) (.pr (.int .i64) (.int .i64))))), 1, .bool, fun x => laws_eqArc x.1 x.2⟩
theorem ok_laws_eqArc : FnOK Tryz.prog 89 (fe_laws_eqArc) := by
  refine closed_ok (tab := []) (l := []) ti_ok ti_ht mix (List.forall_mem_nil _) (List.forall_mem_nil _) ⟨⟨Tryz.f89, (codeOf Tryz.f89), [.tmp 4], (LOn Bool), by kernel_rfl, by kernel_rfl, by kernel_rfl, by kernel_rfl, rfl, by decide, ⟨by kernel_rfl, ?_, ?_⟩, ?_⟩⟩
  · exact no_loops (by kernel_rfl)
  · exact no_cuts (by kernel_rfl)
  · rintro ⟨a0, b1⟩
    kernel_rfl
/- 58 loop.example/g01005/laws.eqArcS -/
def laws_eqArcS_l0 (k : Nat) : Nat → (List (Int × Int × Int)) → (List (Int × Int × Int)) → Int → (Option Bool) → Option Bool
  | 0, _, _, _, _ => none
  | n + 1, a0, b1, i5, e_0 => (if (decide (i5 < (List.length a0 : Int))) = true then (if 0 ≤ i5 then (a0[i5.toNat]?).bind fun y_1 => (if 0 ≤ i5 then (b1[i5.toNat]?).bind fun y_2 => (laws_eqArc y_1 y_2).bind fun r_3 => (if (!r_3) = true then some false else laws_eqArcS_l0 k n a0 b1 (w_i64 (i5 + 1)) e_0) else none) else none) else e_0)
def laws_eqArcS (k : Nat) (a0 : List (Int × Int × Int)) (b1 : List (Int × Int × Int)) : Option Bool := (if (!(decide ((List.length a0 : Int) = (List.length b1 : Int)))) = true then some false else laws_eqArcS_l0 k k a0 b1 0 (some true))
def laws_eqArcS_l0_h : Head := ⟨[(0, (.val (.sl 103 (.st (.pr (.int .i64) (.pr (.int .i64) (.int .i64))))))), (1, (.val (.sl 103 (.st (.pr (.int .i64) (.pr (.int .i64) (.int .i64))))))), (5, (.val (.int .i64)))], [], []⟩
def laws_eqArcS_l0_x0 : Head := ⟨[], [], []⟩
def laws_eqArcS_l0_F (k n : Nat) (x : laws_eqArcS_l0_h.T) (kx : Nat → St → Option Bool) : Option Bool := laws_eqArcS_l0 k n x.1.1 x.1.2.1 x.1.2.2.1 (kx 0 (laws_eqArcS_l0_x0.fill ((), (), ())))
def laws_eqArcS_O (k : Nat) : Oracles Bool := ⟨fun n => bif Nat.beq n 4 then some (fun σ kx => laws_eqArcS_l0_h.get σ fun x => laws_eqArcS_l0_F k k x kx) else none, fun _ => none⟩
def fe_laws_eqArcS (k : Nat) : FE := ⟨(.pr (.sl 103 (.st (.pr (.int .i64) (.pr (.int .i64) (.int .i64))))) (.sl 103 (.st (.pr (.int .i64) (.pr (.int .i64) (.int .i64)))))), 1, .bool, fun x => laws_eqArcS k x.1 x.2⟩
theorem laws_eqArcS_l0_ok (k : Nat) : LoopOK (mkEnv ti [(89, fe_laws_eqArc)] (lk []) pins0 pinB0) (laws_eqArcS_O k) (rdC (mkEnv ti [(89, fe_laws_eqArc)] (lk []) pins0 pinB0) [.tmp 4] .bool) ((loopsOf (codeOf Tryz.f58)).getD 0 .skip) (fun σ kx => laws_eqArcS_l0_h.get σ fun x => laws_eqArcS_l0_F k k x kx) := by
  refine ⟨laws_eqArcS_l0_h, [(0, laws_eqArcS_l0_x0)], fun n x kx => laws_eqArcS_l0_F k n x kx, k, by kernel_rfl, by kernel_rfl, fun x kx => by kernel_rfl, ?_, fun σ kx => rfl⟩
  rintro n ⟨⟨a0, b1, i5, ⟨⟩⟩, ⟨⟩, ⟨⟩⟩ kx
  kernel_rfl
theorem ok_laws_eqArcS (k : Nat) : FnOK Tryz.prog 58 (fe_laws_eqArcS k) := by
  refine closed_ok (tab := [(89, fe_laws_eqArc)]) (l := []) ti_ok ti_ht mix (List.forall_mem_cons.2 ⟨ok_laws_eqArc, (List.forall_mem_nil _)⟩) (List.forall_mem_nil _) ⟨⟨Tryz.f58, (codeOf Tryz.f58), [.tmp 4], (laws_eqArcS_O k), by kernel_rfl, by kernel_rfl, by kernel_rfl, by kernel_rfl, rfl, by decide, ⟨by kernel_rfl, ?_, ?_⟩, ?_⟩⟩
  · refine loops_of (n := 1) (by kernel_rfl) fun i hi => ?_
    match i, hi with
    | 0, _ => exact loop_of (by kernel_rfl) (laws_eqArcS_l0_ok k)
    | n + 1, hi => omega
  · exact no_cuts (by kernel_rfl)
  · rintro ⟨a0, b1⟩
    kernel_rfl
/- 27 loop.example/g01005/laws.eqNetwork -/
def laws_eqNetwork (k : Nat) (a0 : Int × Int × Int × List (Int × Int × Int)) (b1 : Int × Int × Int × List (Int × Int × Int)) : Option Bool := (if (!(decide (a0.1 = b1.1))) = true then some false else (if (!(decide (a0.2.1 = b1.2.1))) = true then some false else (if (!(decide (a0.2.2.1 = b1.2.2.1))) = true then some false else (laws_eqArcS k a0.2.2.2 b1.2.2.2).bind fun r_1 => (if (!r_1) = true then some false else some true))))
def fe_laws_eqNetwork (k : Nat) : FE := ⟨(.pr (.st (.pr (.int .i64) (.pr (.int .i64) (.pr (.int .i64) (.sl 103 (.st (.pr (.int .i64) (.pr (.int .i64) (.int .i64))))))))) (.st (.pr (.int .i64) (.pr (.int .i64) (.pr (.int .i64) (.sl 103 (.st (.pr (.int .i64) (.pr (.int .i64) (.int .i64)))))))))), 1, .bool, fun x => laws_eqNetwork k x.1 x.2⟩
theorem ok_laws_eqNetwork (k : Nat) : FnOK Tryz.prog 27 (fe_laws_eqNetwork k) := by
  refine closed_ok (tab := [(58, fe_laws_eqArcS k)]) (l := []) ti_ok ti_ht mix (List.forall_mem_cons.2 ⟨ok_laws_eqArcS k, (List.forall_mem_nil _)⟩) (List.forall_mem_nil _) ⟨⟨Tryz.f27, (codeOf Tryz.f27), [.tmp 4], (LOn Bool), by kernel_rfl, by kernel_rfl, by kernel_rfl, by kernel_rfl, rfl, by decide, ⟨by kernel_rfl, ?_, ?_⟩, ?_⟩⟩
  · exact no_loops (by kernel_rfl)
  · exact no_cuts (by kernel_rfl)
  · rintro ⟨a0, b1⟩
    kernel_rfl
/- 90 loop.example/g01005/laws.eqTurn -/
def laws_eqTurn (a0 : Int × Int × Int) (b1 : Int × Int × Int) : Option Bool := (if (!(decide (a0.1 = b1.1))) = true then some false else (if (!(decide (a0.2.1 = b1.2.1))) = true then some false else (if (!(decide (a0.2.2 = b1.2.2))) = true then some false else some true)))
def fe_laws_eqTurn : FE := ⟨(.pr (.st (.pr (.int .i64) (.pr (.int .i64) (.int .i64)))) (.st (.pr (.int .i64) (.pr (.int .i64) (.int .i64))))), 1, .bool, fun x => laws_eqTurn x.1 x.2⟩
theorem ok_laws_eqTurn : FnOK Tryz.prog 90 (fe_laws_eqTurn) := by
  refine closed_ok (tab := []) (l := []) ti_ok ti_ht mix (List.forall_mem_nil _) (List.forall_mem_nil _) ⟨⟨Tryz.f90, (codeOf Tryz.f90), [.tmp 4], (LOn Bool), by kernel_rfl, by kernel_rfl, by kernel_rfl, by kernel_rfl, rfl, by decide, ⟨by kernel_rfl, ?_, ?_⟩, ?_⟩⟩
  · exact no_loops (by kernel_rfl)
  · exact no_cuts (by kernel_rfl)
  · rintro ⟨a0, b1⟩
    kernel_rfl
/- 59 loop.example/g01005/laws.eqTurnS -/
def laws_eqTurnS_l0 (k : Nat) : Nat → (List (Int × Int × Int)) → (List (Int × Int × Int)) → Int → (Option Bool) → Option Bool
  | 0, _, _, _, _ => none
  | n + 1, a0, b1, i5, e_0 => (if (decide (i5 < (List.length a0 : Int))) = true then (if 0 ≤ i5 then (a0[i5.toNat]?).bind fun y_1 => (if 0 ≤ i5 then (b1[i5.toNat]?).bind fun y_2 => (laws_eqTurn y_1 y_2).bind fun r_3 => (if (!r_3) = true then some false else laws_eqTurnS_l0 k n a0 b1 (w_i64 (i5 + 1)) e_0) else none) else none) else e_0)
def laws_eqTurnS (k : Nat) (a0 : List (Int × Int × Int)) (b1 : List (Int × Int × Int)) : Option Bool := (if (!(decide ((List.length a0 : Int) = (List.length b1 : Int)))) = true then some false else laws_eqTurnS_l0 k k a0 b1 0 (some true))
def laws_eqTurnS_l0_h : Head := ⟨[(0, (.val (.sl 108 (.st (.pr (.int .i64) (.pr (.int .i64) (.int .i64))))))), (1, (.val (.sl 108 (.st (.pr (.int .i64) (.pr (.int .i64) (.int .i64))))))), (5, (.val (.int .i64)))], [], []⟩
def laws_eqTurnS_l0_x0 : Head := ⟨[], [], []⟩
def laws_eqTurnS_l0_F (k n : Nat) (x : laws_eqTurnS_l0_h.T) (kx : Nat → St → Option Bool) : Option Bool := laws_eqTurnS_l0 k n x.1.1 x.1.2.1 x.1.2.2.1 (kx 0 (laws_eqTurnS_l0_x0.fill ((), (), ())))
def laws_eqTurnS_O (k : Nat) : Oracles Bool := ⟨fun n => bif Nat.beq n 4 then some (fun σ kx => laws_eqTurnS_l0_h.get σ fun x => laws_eqTurnS_l0_F k k x kx) else none, fun _ => none⟩
def fe_laws_eqTurnS (k : Nat) : FE := ⟨(.pr (.sl 108 (.st (.pr (.int .i64) (.pr (.int .i64) (.int .i64))))) (.sl 108 (.st (.pr (.int .i64) (.pr (.int .i64) (.int .i64)))))), 1, .bool, fun x => laws_eqTurnS k x.1 x.2⟩
theorem laws_eqTurnS_l0_ok (k : Nat) : LoopOK (mkEnv ti [(90, fe_laws_eqTurn)] (lk []) pins0 pinB0) (laws_eqTurnS_O k) (rdC (mkEnv ti [(90, fe_laws_eqTurn)] (lk []) pins0 pinB0) [.tmp 4] .bool) ((loopsOf (codeOf Tryz.f59)).getD 0 .skip) (fun σ kx => laws_eqTurnS_l0_h.get σ fun x => laws_eqTurnS_l0_F k k x kx) := by
  refine ⟨laws_eqTurnS_l0_h, [(0, laws_eqTurnS_l0_x0)], fun n x kx => laws_eqTurnS_l0_F k n x kx, k, by kernel_rfl, by kernel_rfl, fun x kx => by kernel_rfl, ?_, fun σ kx => rfl⟩
  rintro n ⟨⟨a0, b1, i5, ⟨⟩⟩, ⟨⟩, ⟨⟩⟩ kx
  kernel_rfl
theorem ok_laws_eqTurnS (k : Nat) : FnOK Tryz.prog 59 (fe_laws_eqTurnS k) := by
  refine closed_ok (tab := [(90, fe_laws_eqTurn)]) (l := []) ti_ok ti_ht mix (List.forall_mem_cons.2 ⟨ok_laws_eqTurn, (List.forall_mem_nil _)⟩) (List.forall_mem_nil _) ⟨⟨Tryz.f59, (codeOf Tryz.f59), [.tmp 4], (laws_eqTurnS_O k), by kernel_rfl, by kernel_rfl, by kernel_rfl, by kernel_rfl, rfl, by decide, ⟨by kernel_rfl, ?_, ?_⟩, ?_⟩⟩
  · refine loops_of (n := 1) (by kernel_rfl) fun i hi => ?_
    match i, hi with
    | 0, _ => exact loop_of (by kernel_rfl) (laws_eqTurnS_l0_ok k)
    | n + 1, hi => omega
  · exact no_cuts (by kernel_rfl)
  · rintro ⟨a0, b1⟩
    kernel_rfl
/- 28 loop.example/g01005/laws.eqPhases -/
def laws_eqPhases (k : Nat) (a0 : Int × Int × List (Int × Int × Int)) (b1 : Int × Int × List (Int × Int × Int)) : Option Bool := (if (!(decide (a0.1 = b1.1))) = true then some false else (if (!(decide (a0.2.1 = b1.2.1))) = true then some false else (laws_eqTurnS k a0.2.2 b1.2.2).bind fun r_1 => (if (!r_1) = true then some false else some true)))
def fe_laws_eqPhases (k : Nat) : FE := ⟨(.pr (.st (.pr (.int .i64) (.pr (.int .i64) (.sl 108 (.st (.pr (.int .i64) (.pr (.int .i64) (.int .i64)))))))) (.st (.pr (.int .i64) (.pr (.int .i64) (.sl 108 (.st (.pr (.int .i64) (.pr (.int .i64) (.int .i64))))))))), 1, .bool, fun x => laws_eqPhases k x.1 x.2⟩
theorem ok_laws_eqPhases (k : Nat) : FnOK Tryz.prog 28 (fe_laws_eqPhases k) := by
  refine closed_ok (tab := [(59, fe_laws_eqTurnS k)]) (l := []) ti_ok ti_ht mix (List.forall_mem_cons.2 ⟨ok_laws_eqTurnS k, (List.forall_mem_nil _)⟩) (List.forall_mem_nil _) ⟨⟨Tryz.f28, (codeOf Tryz.f28), [.tmp 4], (LOn Bool), by kernel_rfl, by kernel_rfl, by kernel_rfl, by kernel_rfl, rfl, by decide, ⟨by kernel_rfl, ?_, ?_⟩, ?_⟩⟩
  · exact no_loops (by kernel_rfl)
  · exact no_cuts (by kernel_rfl)
  · rintro ⟨a0, b1⟩
    kernel_rfl
/- 8 loop.example/g01005/laws.eqWork -/
def laws_eqWork (k : Nat) (a0 : (List (List Int) × Int × List Int × List (Int × Int × Int × List Int)) × Int × List Int × List Int × (Int × Int × Int × List (Int × Int × Int)) × List Int × List Int × (Int × Int × List (Int × Int × Int)) × List Int) (b1 : (List (List Int) × Int × List Int × List (Int × Int × Int × List Int)) × Int × List Int × List Int × (Int × Int × Int × List (Int × Int × Int)) × List Int × List Int × (Int × Int × List (Int × Int × Int)) × List Int) : Option Bool := (laws_eqSheaf k a0.1 b1.1).bind fun r_1 => (if (!r_1) = true then some false else (if (!(decide (a0.2.1 = b1.2.1))) = true then some false else (laws_eqInt64S k a0.2.2.1 b1.2.2.1).bind fun r_2 => (if (!r_2) = true then some false else (laws_eqInt64S k a0.2.2.2.1 b1.2.2.2.1).bind fun r_3 => (if (!r_3) = true then some false else (laws_eqNetwork k a0.2.2.2.2.1 b1.2.2.2.2.1).bind fun r_4 => (if (!r_4) = true then some false else (laws_eqInt64S k a0.2.2.2.2.2.1 b1.2.2.2.2.2.1).bind fun r_5 => (if (!r_5) = true then some false else (laws_eqInt64S k a0.2.2.2.2.2.2.1 b1.2.2.2.2.2.2.1).bind fun r_6 => (if (!r_6) = true then some false else (laws_eqPhases k a0.2.2.2.2.2.2.2.1 b1.2.2.2.2.2.2.2.1).bind fun r_7 => (if (!r_7) = true then some false else (laws_eqInt64S k a0.2.2.2.2.2.2.2.2 b1.2.2.2.2.2.2.2.2).bind fun r_8 => (if (!r_8) = true then some false else some true)))))))))
def fe_laws_eqWork (k : Nat) : FE := ⟨(.pr (.st (.pr (.st (.pr (.st (.sl 25 (.sl 2 (.int .i64)))) (.pr (.int .i64) (.pr (.sl 2 (.int .i64)) (.sl 100 (.st (.pr (.int .i64) (.pr (.int .i64) (.pr (.int .i64) (.sl 2 (.int .i64))))))))))) (.pr (.int .i64) (.pr (.sl 2 (.int .i64)) (.pr (.sl 2 (.int .i64)) (.pr (.st (.pr (.int .i64) (.pr (.int .i64) (.pr (.int .i64) (.sl 103 (.st (.pr (.int .i64) (.pr (.int .i64) (.int .i64))))))))) (.pr (.sl 2 (.int .i64)) (.pr (.sl 2 (.int .i64)) (.pr (.st (.pr (.int .i64) (.pr (.int .i64) (.sl 108 (.st (.pr (.int .i64) (.pr (.int .i64) (.int .i64)))))))) (.sl 2 (.int .i64))))))))))) (.st (.pr (.st (.pr (.st (.sl 25 (.sl 2 (.int .i64)))) (.pr (.int .i64) (.pr (.sl 2 (.int .i64)) (.sl 100 (.st (.pr (.int .i64) (.pr (.int .i64) (.pr (.int .i64) (.sl 2 (.int .i64))))))))))) (.pr (.int .i64) (.pr (.sl 2 (.int .i64)) (.pr (.sl 2 (.int .i64)) (.pr (.st (.pr (.int .i64) (.pr (.int .i64) (.pr (.int .i64) (.sl 103 (.st (.pr (.int .i64) (.pr (.int .i64) (.int .i64))))))))) (.pr (.sl 2 (.int .i64)) (.pr (.sl 2 (.int .i64)) (.pr (.st (.pr (.int .i64) (.pr (.int .i64) (.sl 108 (.st (.pr (.int .i64) (.pr (.int .i64) (.int .i64)))))))) (.sl 2 (.int .i64)))))))))))), 1, .bool, fun x => laws_eqWork k x.1 x.2⟩
theorem ok_laws_eqWork (k : Nat) : FnOK Tryz.prog 8 (fe_laws_eqWork k) := by
  refine closed_ok (tab := [(25, fe_laws_eqSheaf k), (26, fe_laws_eqInt64S k), (27, fe_laws_eqNetwork k), (28, fe_laws_eqPhases k)]) (l := []) ti_ok ti_ht mix (List.forall_mem_cons.2 ⟨ok_laws_eqSheaf k, (List.forall_mem_cons.2 ⟨ok_laws_eqInt64S k, (List.forall_mem_cons.2 ⟨ok_laws_eqNetwork k, (List.forall_mem_cons.2 ⟨ok_laws_eqPhases k, (List.forall_mem_nil _)⟩)⟩)⟩)⟩) (List.forall_mem_nil _) ⟨⟨Tryz.f8, (codeOf Tryz.f8), [.tmp 4], (LOn Bool), by kernel_rfl, by kernel_rfl, by kernel_rfl, by kernel_rfl, rfl, by decide, ⟨by kernel_rfl, ?_, ?_⟩, ?_⟩⟩
  · exact no_loops (by kernel_rfl)
  · exact no_cuts (by kernel_rfl)
  · rintro ⟨a0, b1⟩
    kernel_rfl
end
end Go.Proofs.YtankbidchgcapaaGreat.Ev
