/- Functions of the program, as plain ones. No conditions. -/
import Derived.Test.YtmmkijdfiaaobaaGreatG7
import Derived.KernelRfl
set_option linter.unusedVariables false
set_option maxRecDepth 100000
namespace Go.Proofs.YtmmkijdfiaaobaaGreat.Ev
open Go.RowKit
noncomputable section
/- 74 loop.example/g01005/impl.isTime -/
def impl_isTime (t0 : Int) : Option Bool := (impl_within t0 0 1000).bind fun r_1 => some r_1
def fe_impl_isTime : FE := ⟨(.int .i64), 1, .bool, fun x => impl_isTime x⟩
theorem ok_impl_isTime : FnOK Tryz.prog 74 (fe_impl_isTime) := by
  refine closed_ok (tab := [(64, fe_impl_within)]) (l := []) ti_ok ti_ht mix (List.forall_mem_cons.2 ⟨ok_impl_within, (List.forall_mem_nil _)⟩) (List.forall_mem_nil _) ⟨⟨Tryz.f74, (codeOf Tryz.f74), [.tmp 2], (LOn Bool), by kernel_rfl, by kernel_rfl, by kernel_rfl, by kernel_rfl, rfl, by decide, ⟨by kernel_rfl, ?_, ?_⟩, ?_⟩⟩
  · exact no_loops (by kernel_rfl)
  · exact no_cuts (by kernel_rfl)
  · rintro t0
    kernel_rfl
/- 73 loop.example/g01005/impl.ValidFiltration$1 -/
def impl_ValidFiltration_1 (t0 : Int) : Option Bool := (impl_isTime t0).bind fun r_1 => some (!r_1)
def fe_impl_ValidFiltration_1 : FE := ⟨(.int .i64), 1, .bool, fun x => impl_ValidFiltration_1 x⟩
theorem ok_impl_ValidFiltration_1 : FnOK Tryz.prog 73 (fe_impl_ValidFiltration_1) := by
  refine closed_ok (tab := [(74, fe_impl_isTime)]) (l := []) ti_ok ti_ht mix (List.forall_mem_cons.2 ⟨ok_impl_isTime, (List.forall_mem_nil _)⟩) (List.forall_mem_nil _) ⟨⟨Tryz.f73, (codeOf Tryz.f73), [.tmp 2], (LOn Bool), by kernel_rfl, by kernel_rfl, by kernel_rfl, by kernel_rfl, rfl, by decide, ⟨by kernel_rfl, ?_, ?_⟩, ?_⟩⟩
  · exact no_loops (by kernel_rfl)
  · exact no_cuts (by kernel_rfl)
  · rintro t0
    kernel_rfl
/- 124 slices.IndexFunc[[]int64,int64] -/
def slices_IndexFunc_int64__impl_ValidFiltration_1_l0 (k : Nat) : Nat → (List Int) → Unit → Int → Int → (Option Int) → Option Int
  | 0, _, _, _, _, _ => none
  | n + 1, s0, f1, x7, x8, e_0 => (if (decide (x8 < x7)) = true then (if 0 ≤ x8 then (s0[x8.toNat]?).bind fun y_1 => (impl_ValidFiltration_1 y_1).bind fun r_2 => (if r_2 = true then some x8 else slices_IndexFunc_int64__impl_ValidFiltration_1_l0 k n s0 f1 x7 (w_i64 (x8 + 1)) e_0) else none) else e_0)
def slices_IndexFunc_int64__impl_ValidFiltration_1 (k : Nat) (s0 : List Int) (f1 : Unit) : Option Int := slices_IndexFunc_int64__impl_ValidFiltration_1_l0 k k s0 f1 (List.length s0 : Int) 0 (some (-1))
def slices_IndexFunc_int64__impl_ValidFiltration_1_l0_h : Head := ⟨[(0, (.val (.sl 2 (.int .i64)))), (1, (.val (.fn 73 .un))), (7, (.val (.int .i64))), (8, (.val (.int .i64)))], [], []⟩
def slices_IndexFunc_int64__impl_ValidFiltration_1_l0_x0 : Head := ⟨[], [], []⟩
def slices_IndexFunc_int64__impl_ValidFiltration_1_l0_F (k n : Nat) (x : slices_IndexFunc_int64__impl_ValidFiltration_1_l0_h.T) (kx : Nat → St → Option Int) : Option Int := slices_IndexFunc_int64__impl_ValidFiltration_1_l0 k n x.1.1 x.1.2.1 x.1.2.2.1 x.1.2.2.2.1 (kx 0 (slices_IndexFunc_int64__impl_ValidFiltration_1_l0_x0.fill ((), (), ())))
def slices_IndexFunc_int64__impl_ValidFiltration_1_O (k : Nat) : Oracles Int := ⟨fun n => bif Nat.beq n 2 then some (fun σ kx => slices_IndexFunc_int64__impl_ValidFiltration_1_l0_h.get σ fun x => slices_IndexFunc_int64__impl_ValidFiltration_1_l0_F k k x kx) else none, fun _ => none⟩
def fe_slices_IndexFunc_int64__impl_ValidFiltration_1 (k : Nat) : FE := ⟨(.pr (.sl 2 (.int .i64)) (.fn 73 .un)), 1, (.int .i64), fun x => slices_IndexFunc_int64__impl_ValidFiltration_1 k x.1 x.2⟩
theorem slices_IndexFunc_int64__impl_ValidFiltration_1_l0_ok (k : Nat) : LoopOK (mkEnv ti [(73, fe_impl_ValidFiltration_1)] (lk []) pins0 pinB0) (slices_IndexFunc_int64__impl_ValidFiltration_1_O k) (rdC (mkEnv ti [(73, fe_impl_ValidFiltration_1)] (lk []) pins0 pinB0) [.tmp 4] (.int .i64)) ((loopsOf (codeOf Tryz.f124)).getD 0 .skip) (fun σ kx => slices_IndexFunc_int64__impl_ValidFiltration_1_l0_h.get σ fun x => slices_IndexFunc_int64__impl_ValidFiltration_1_l0_F k k x kx) := by
  refine ⟨slices_IndexFunc_int64__impl_ValidFiltration_1_l0_h, [(0, slices_IndexFunc_int64__impl_ValidFiltration_1_l0_x0)], fun n x kx => slices_IndexFunc_int64__impl_ValidFiltration_1_l0_F k n x kx, k, by kernel_rfl, by kernel_rfl, fun x kx => by kernel_rfl, ?_, fun σ kx => rfl⟩
  rintro n ⟨⟨s0, f1, x7, x8, ⟨⟩⟩, ⟨⟩, ⟨⟩⟩ kx
  kernel_rfl
theorem ok_slices_IndexFunc_int64__impl_ValidFiltration_1 (k : Nat) : FnOK Tryz.prog 124 (fe_slices_IndexFunc_int64__impl_ValidFiltration_1 k) := by
  refine closed_ok (tab := [(73, fe_impl_ValidFiltration_1)]) (l := []) ti_ok ti_ht mix (List.forall_mem_cons.2 ⟨ok_impl_ValidFiltration_1, (List.forall_mem_nil _)⟩) (List.forall_mem_nil _) ⟨⟨Tryz.f124, (codeOf Tryz.f124), [.tmp 4], (slices_IndexFunc_int64__impl_ValidFiltration_1_O k), by kernel_rfl, by kernel_rfl, by kernel_rfl, by kernel_rfl, rfl, by decide, ⟨by kernel_rfl, ?_, ?_⟩, ?_⟩⟩
  · refine loops_of (n := 1) (by kernel_rfl) fun i hi => ?_
    match i, hi with
    | 0, _ => exact loop_of (by kernel_rfl) (slices_IndexFunc_int64__impl_ValidFiltration_1_l0_ok k)
    | n + 1, hi => omega
  · exact no_cuts (by kernel_rfl)
  · rintro ⟨s0, f1⟩
    kernel_rfl
/- 72 slices.ContainsFunc[[]int64,int64] -/
def slices_ContainsFunc_int64__impl_ValidFiltration_1 (k : Nat) (s0 : List Int) (f1 : Unit) : Option Bool := (slices_IndexFunc_int64__impl_ValidFiltration_1 k s0 f1).bind fun r_1 => some (decide (0 ≤ r_1))
def fe_slices_ContainsFunc_int64__impl_ValidFiltration_1 (k : Nat) : FE := ⟨(.pr (.sl 2 (.int .i64)) (.fn 73 .un)), 1, .bool, fun x => slices_ContainsFunc_int64__impl_ValidFiltration_1 k x.1 x.2⟩
theorem ok_slices_ContainsFunc_int64__impl_ValidFiltration_1 (k : Nat) : FnOK Tryz.prog 72 (fe_slices_ContainsFunc_int64__impl_ValidFiltration_1 k) := by
  refine closed_ok (tab := [(124, fe_slices_IndexFunc_int64__impl_ValidFiltration_1 k)]) (l := []) ti_ok ti_ht mix (List.forall_mem_cons.2 ⟨ok_slices_IndexFunc_int64__impl_ValidFiltration_1 k, (List.forall_mem_nil _)⟩) (List.forall_mem_nil _) ⟨⟨Tryz.f72, (codeOf Tryz.f72), [.tmp 4], (LOn Bool), by kernel_rfl, by kernel_rfl, by kernel_rfl, by kernel_rfl, rfl, by decide, ⟨by kernel_rfl, ?_, ?_⟩, ?_⟩⟩
  · exact no_loops (by kernel_rfl)
  · exact no_cuts (by kernel_rfl)
  · rintro ⟨s0, f1⟩
    kernel_rfl
/- 76 loop.example/g01005/impl.ValidFiltration$2 -/
def impl_ValidFiltration_2 (a0 : Int × Int × Int) (x1 : List (List Int) × List Int) : Option Bool := (if 0 ≤ a0.2.2 then (x1.2[a0.2.2.toNat]?).bind fun y_1 => (if 0 ≤ a0.1 then (x1.2[a0.1.toNat]?).bind fun y_2 => some (decide (y_2 < y_1)) else none) else none)
def fe_impl_ValidFiltration_2 : FE := ⟨(.pr (.st (.pr (.int .i64) (.pr (.int .i64) (.int .i64)))) (.ptr (.st (.pr (.st (.sl 25 (.sl 2 (.int .i64)))) (.sl 2 (.int .i64)))))), 1, .bool, fun x => impl_ValidFiltration_2 x.1 x.2⟩
theorem ok_impl_ValidFiltration_2 : FnOK Tryz.prog 76 (fe_impl_ValidFiltration_2) := by
  refine closed_ok (tab := []) (l := []) ti_ok ti_ht mix (List.forall_mem_nil _) (List.forall_mem_nil _) ⟨⟨Tryz.f76, (codeOf Tryz.f76), [.tmp 3], (LOn Bool), by kernel_rfl, by kernel_rfl, by kernel_rfl, by kernel_rfl, rfl, by decide, ⟨by kernel_rfl, ?_, ?_⟩, ?_⟩⟩
  · exact no_loops (by kernel_rfl)
  · exact no_cuts (by kernel_rfl)
  · rintro ⟨a0, x1⟩
    kernel_rfl
/- 125 slices.IndexFunc[[]loop.example/g01005/impl.arrow,loop.example/g01005/impl.arrow] -/
def slices_IndexFunc_impl_arrow__impl_ValidFiltration_2_l0 (k : Nat) : Nat → (List (Int × Int × Int)) → (List (List Int) × List Int) → Int → Int → (Option Int) → Option Int
  | 0, _, _, _, _, _ => none
  | n + 1, s0, f1, x7, x8, e_0 => (if (decide (x8 < x7)) = true then (if 0 ≤ x8 then (s0[x8.toNat]?).bind fun y_1 => (impl_ValidFiltration_2 y_1 f1).bind fun r_2 => (if r_2 = true then some x8 else slices_IndexFunc_impl_arrow__impl_ValidFiltration_2_l0 k n s0 f1 x7 (w_i64 (x8 + 1)) e_0) else none) else e_0)
def slices_IndexFunc_impl_arrow__impl_ValidFiltration_2 (k : Nat) (s0 : List (Int × Int × Int)) (f1 : List (List Int) × List Int) : Option Int := slices_IndexFunc_impl_arrow__impl_ValidFiltration_2_l0 k k s0 f1 (List.length s0 : Int) 0 (some (-1))
def slices_IndexFunc_impl_arrow__impl_ValidFiltration_2_l0_h : Head := ⟨[(0, (.val (.sl 125 (.st (.pr (.int .i64) (.pr (.int .i64) (.int .i64))))))), (1, (.val (.fn 76 (.ptr (.st (.pr (.st (.sl 25 (.sl 2 (.int .i64)))) (.sl 2 (.int .i64)))))))), (7, (.val (.int .i64))), (8, (.val (.int .i64)))], [], []⟩
def slices_IndexFunc_impl_arrow__impl_ValidFiltration_2_l0_x0 : Head := ⟨[], [], []⟩
def slices_IndexFunc_impl_arrow__impl_ValidFiltration_2_l0_F (k n : Nat) (x : slices_IndexFunc_impl_arrow__impl_ValidFiltration_2_l0_h.T) (kx : Nat → St → Option Int) : Option Int := slices_IndexFunc_impl_arrow__impl_ValidFiltration_2_l0 k n x.1.1 x.1.2.1 x.1.2.2.1 x.1.2.2.2.1 (kx 0 (slices_IndexFunc_impl_arrow__impl_ValidFiltration_2_l0_x0.fill ((), (), ())))
def slices_IndexFunc_impl_arrow__impl_ValidFiltration_2_O (k : Nat) : Oracles Int := ⟨fun n => bif Nat.beq n 2 then some (fun σ kx => slices_IndexFunc_impl_arrow__impl_ValidFiltration_2_l0_h.get σ fun x => slices_IndexFunc_impl_arrow__impl_ValidFiltration_2_l0_F k k x kx) else none, fun _ => none⟩
def fe_slices_IndexFunc_impl_arrow__impl_ValidFiltration_2 (k : Nat) : FE := ⟨(.pr (.sl 125 (.st (.pr (.int .i64) (.pr (.int .i64) (.int .i64))))) (.fn 76 (.ptr (.st (.pr (.st (.sl 25 (.sl 2 (.int .i64)))) (.sl 2 (.int .i64))))))), 1, (.int .i64), fun x => slices_IndexFunc_impl_arrow__impl_ValidFiltration_2 k x.1 x.2⟩
theorem slices_IndexFunc_impl_arrow__impl_ValidFiltration_2_l0_ok (k : Nat) : LoopOK (mkEnv ti [(76, fe_impl_ValidFiltration_2)] (lk []) pins0 pinB0) (slices_IndexFunc_impl_arrow__impl_ValidFiltration_2_O k) (rdC (mkEnv ti [(76, fe_impl_ValidFiltration_2)] (lk []) pins0 pinB0) [.tmp 4] (.int .i64)) ((loopsOf (codeOf Tryz.f125)).getD 0 .skip) (fun σ kx => slices_IndexFunc_impl_arrow__impl_ValidFiltration_2_l0_h.get σ fun x => slices_IndexFunc_impl_arrow__impl_ValidFiltration_2_l0_F k k x kx) := by
  refine ⟨slices_IndexFunc_impl_arrow__impl_ValidFiltration_2_l0_h, [(0, slices_IndexFunc_impl_arrow__impl_ValidFiltration_2_l0_x0)], fun n x kx => slices_IndexFunc_impl_arrow__impl_ValidFiltration_2_l0_F k n x kx, k, by kernel_rfl, by kernel_rfl, fun x kx => by kernel_rfl, ?_, fun σ kx => rfl⟩
  rintro n ⟨⟨s0, f1, x7, x8, ⟨⟩⟩, ⟨⟩, ⟨⟩⟩ kx
  kernel_rfl
theorem ok_slices_IndexFunc_impl_arrow__impl_ValidFiltration_2 (k : Nat) : FnOK Tryz.prog 125 (fe_slices_IndexFunc_impl_arrow__impl_ValidFiltration_2 k) := by
  refine closed_ok (tab := [(76, fe_impl_ValidFiltration_2)]) (l := []) ti_ok ti_ht mix (List.forall_mem_cons.2 ⟨ok_impl_ValidFiltration_2, (List.forall_mem_nil _)⟩) (List.forall_mem_nil _) ⟨⟨Tryz.f125, (codeOf Tryz.f125), [.tmp 4], (slices_IndexFunc_impl_arrow__impl_ValidFiltration_2_O k), by kernel_rfl, by kernel_rfl, by kernel_rfl, by kernel_rfl, rfl, by decide, ⟨by kernel_rfl, ?_, ?_⟩, ?_⟩⟩
  · refine loops_of (n := 1) (by kernel_rfl) fun i hi => ?_
    match i, hi with
    | 0, _ => exact loop_of (by kernel_rfl) (slices_IndexFunc_impl_arrow__impl_ValidFiltration_2_l0_ok k)
    | n + 1, hi => omega
  · exact no_cuts (by kernel_rfl)
  · rintro ⟨s0, f1⟩
    kernel_rfl
/- 75 slices.ContainsFunc[[]loop.example/g01005/impl.arrow,loop.example/g01005/impl.arrow] -/
def slices_ContainsFunc_impl_arrow__impl_ValidFiltration_2 (k : Nat) (s0 : List (Int × Int × Int)) (f1 : List (List Int) × List Int) : Option Bool := (slices_IndexFunc_impl_arrow__impl_ValidFiltration_2 k s0 f1).bind fun r_1 => some (decide (0 ≤ r_1))
def fe_slices_ContainsFunc_impl_arrow__impl_ValidFiltration_2 (k : Nat) : FE := ⟨(.pr (.sl 125 (.st (.pr (.int .i64) (.pr (.int .i64) (.int .i64))))) (.fn 76 (.ptr (.st (.pr (.st (.sl 25 (.sl 2 (.int .i64)))) (.sl 2 (.int .i64))))))), 1, .bool, fun x => slices_ContainsFunc_impl_arrow__impl_ValidFiltration_2 k x.1 x.2⟩
theorem ok_slices_ContainsFunc_impl_arrow__impl_ValidFiltration_2 (k : Nat) : FnOK Tryz.prog 75 (fe_slices_ContainsFunc_impl_arrow__impl_ValidFiltration_2 k) := by
  refine closed_ok (tab := [(125, fe_slices_IndexFunc_impl_arrow__impl_ValidFiltration_2 k)]) (l := []) ti_ok ti_ht mix (List.forall_mem_cons.2 ⟨ok_slices_IndexFunc_impl_arrow__impl_ValidFiltration_2 k, (List.forall_mem_nil _)⟩) (List.forall_mem_nil _) ⟨⟨Tryz.f75, (codeOf Tryz.f75), [.tmp 4], (LOn Bool), by kernel_rfl, by kernel_rfl, by kernel_rfl, by kernel_rfl, rfl, by decide, ⟨by kernel_rfl, ?_, ?_⟩, ?_⟩⟩
  · exact no_loops (by kernel_rfl)
  · exact no_cuts (by kernel_rfl)
  · rintro ⟨s0, f1⟩
    kernel_rfl
/- 28 loop.example/g01005/impl.ValidFiltration -/
def impl_ValidFiltration (k : Nat) (f0 : List (List Int) × List Int) : Option Bool := (impl_ValidComplex k f0.1).bind fun r_1 => (if (!r_1) = true then some false else (if (!(decide ((List.length f0.2 : Int) = (List.length f0.1 : Int)))) = true then some false else (slices_ContainsFunc_int64__impl_ValidFiltration_1 k f0.2 ()).bind fun r_2 => (if r_2 = true then some false else (impl_arrows k f0.1).bind fun r_3 => (slices_ContainsFunc_impl_arrow__impl_ValidFiltration_2 k r_3 f0).bind fun r_4 => some (!r_4))))
def fe_impl_ValidFiltration (k : Nat) : FE := ⟨(.st (.pr (.st (.sl 25 (.sl 2 (.int .i64)))) (.sl 2 (.int .i64)))), 1, .bool, fun x => impl_ValidFiltration k x⟩
theorem ok_impl_ValidFiltration (k : Nat) : FnOK Tryz.prog 28 (fe_impl_ValidFiltration k) := by
  refine closed_ok (tab := [(59, fe_impl_ValidComplex k), (72, fe_slices_ContainsFunc_int64__impl_ValidFiltration_1 k), (62, fe_impl_arrows k), (75, fe_slices_ContainsFunc_impl_arrow__impl_ValidFiltration_2 k)]) (l := []) ti_ok ti_ht mix (List.forall_mem_cons.2 ⟨ok_impl_ValidComplex k, (List.forall_mem_cons.2 ⟨ok_slices_ContainsFunc_int64__impl_ValidFiltration_1 k, (List.forall_mem_cons.2 ⟨ok_impl_arrows k, (List.forall_mem_cons.2 ⟨ok_slices_ContainsFunc_impl_arrow__impl_ValidFiltration_2 k, (List.forall_mem_nil _)⟩)⟩)⟩)⟩) (List.forall_mem_nil _) ⟨⟨Tryz.f28, (codeOf Tryz.f28), [.tmp 2], (LOn Bool), by kernel_rfl, by kernel_rfl, by kernel_rfl, by kernel_rfl, rfl, by decide, ⟨by kernel_rfl, ?_, ?_⟩, ?_⟩⟩
  · exact no_loops (by kernel_rfl)
  · exact no_cuts (by kernel_rfl)
  · rintro f0
    kernel_rfl
/- 126 loop.example/g01005/impl.IsName -/
def impl_IsName_l0 (k : Nat) : Nat → Int → Int → (List Int) → (Option Bool) → Option Bool
  | 0, _, _, _, _ => none
  | n + 1, x17, x18, q_1, e_0 => (if (decide (x18 < x17)) = true then (if 0 ≤ x18 ∧ x18.toNat < List.length q_1 then (q_1[x18.toNat]?).bind fun y_2 => (if (decide (97 ≤ y_2)) = true then (if (decide (48 ≤ y_2)) = true then (if (!(decide (y_2 ≤ 122))) = true then (if (decide (x18 = 0)) = true then some false else (if (!(decide (y_2 ≤ 57))) = true then some false else impl_IsName_l0 k n x17 (w_i64 (x18 + 1)) q_1 e_0)) else impl_IsName_l0 k n x17 (w_i64 (x18 + 1)) q_1 e_0) else (if (!(decide (y_2 ≤ 122))) = true then (if (decide (x18 = 0)) = true then some false else some false) else impl_IsName_l0 k n x17 (w_i64 (x18 + 1)) q_1 e_0)) else (if (decide (48 ≤ y_2)) = true then (if (decide (x18 = 0)) = true then some false else (if (!(decide (y_2 ≤ 57))) = true then some false else impl_IsName_l0 k n x17 (w_i64 (x18 + 1)) q_1 e_0)) else (if (decide (x18 = 0)) = true then some false else some false))) else none) else e_0)
def impl_IsName (k : Nat) (s0 : List UInt8) : Option Bool := (if (decide ((List.length s0 : Int) < 1)) = true then some false else (if (decide (10 < (List.length s0 : Int))) = true then some false else (if s0.length ≤ LIM then impl_IsName_l0 k k (List.length (of_S s0) : Int) 0 (of_S s0) (some true) else none)))
def impl_IsName_l0_h : Head := ⟨[(16, (.ref 64000000 [])), (17, (.val (.int .i64))), (18, (.val (.int .i64)))], [(64000000, 5, (.int .u8), true)], []⟩
def impl_IsName_l0_x0 : Head := ⟨[], [], []⟩
def impl_IsName_l0_F (k n : Nat) (x : impl_IsName_l0_h.T) (kx : Nat → St → Option Bool) : Option Bool := impl_IsName_l0 k n x.1.2.1 x.1.2.2.1 x.2.1.1 (kx 0 (impl_IsName_l0_x0.fill ((), (), ())))
def impl_IsName_O (k : Nat) : Oracles Bool := ⟨fun n => bif Nat.beq n 4 then some (fun σ kx => impl_IsName_l0_h.get σ fun x => impl_IsName_l0_F k k x kx) else none, fun _ => none⟩
def fe_impl_IsName (k : Nat) : FE := ⟨.str, 1, .bool, fun x => impl_IsName k x⟩
theorem impl_IsName_l0_ok (k : Nat) : LoopOK (mkEnv ti [] (lk []) pins0 pinB0) (impl_IsName_O k) (rdC (mkEnv ti [] (lk []) pins0 pinB0) [.tmp 2] .bool) ((loopsOf (codeOf Tryz.f126)).getD 0 .skip) (fun σ kx => impl_IsName_l0_h.get σ fun x => impl_IsName_l0_F k k x kx) := by
  refine ⟨impl_IsName_l0_h, [(0, impl_IsName_l0_x0)], fun n x kx => impl_IsName_l0_F k n x kx, k, by kernel_rfl, by kernel_rfl, fun x kx => by kernel_rfl, ?_, fun σ kx => rfl⟩
  rintro n ⟨⟨⟨⟩, x17, x18, ⟨⟩⟩, ⟨q_1, ⟨⟩⟩, ⟨⟩⟩ kx
  kernel_rfl
theorem ok_impl_IsName (k : Nat) : FnOK Tryz.prog 126 (fe_impl_IsName k) := by
  refine closed_ok (tab := []) (l := []) ti_ok ti_ht mix (List.forall_mem_nil _) (List.forall_mem_nil _) ⟨⟨Tryz.f126, (codeOf Tryz.f126), [.tmp 2], (impl_IsName_O k), by kernel_rfl, by kernel_rfl, by kernel_rfl, by kernel_rfl, rfl, by decide, ⟨by kernel_rfl, ?_, ?_⟩, ?_⟩⟩
  · refine loops_of (n := 1) (by kernel_rfl) fun i hi => ?_
    match i, hi with
    | 0, _ => exact loop_of (by kernel_rfl) (impl_IsName_l0_ok k)
    | n + 1, hi => omega
  · exact no_cuts (by kernel_rfl)
  · rintro s0
    kernel_rfl
/- 77 loop.example/g01005/impl.areNames -/
def impl_areNames_l0 (k : Nat) : Nat → (List (List UInt8)) → Int → (List (List UInt8)) → Int → Int → ((List (List UInt8)) → Int → Option Bool) → Option Bool
  | 0, _, _, _, _, _, _ => none
  | n + 1, names0, most1, x7, x8, x9, e_0 => (if (decide (x9 < x8)) = true then (if 0 ≤ x9 then (x7[x9.toNat]?).bind fun y_1 => (impl_IsName k y_1).bind fun r_2 => (if (!r_2) = true then some false else (if (decide (0 < x9)) = true then (if 0 ≤ (w_i64 (x9 - 1)) then (names0[(w_i64 (x9 - 1)).toNat]?).bind fun y_3 => (if (Op.bytesLess y_1 y_3 || decide (y_1 = y_3)) = true then some false else impl_areNames_l0 k n names0 most1 x7 x8 (w_i64 (x9 + 1)) e_0) else none) else impl_areNames_l0 k n names0 most1 x7 x8 (w_i64 (x9 + 1)) e_0)) else none) else e_0 names0 most1)
def impl_areNames (k : Nat) (names0 : List (List UInt8)) (most1 : Int) : Option Bool := impl_areNames_l0 k k names0 most1 names0 (List.length names0 : Int) 0 (fun names_4 most_5 => some (decide ((List.length names_4 : Int) ≤ most_5)))
def impl_areNames_l0_h : Head := ⟨[(0, (.val (.sl 9 .str))), (1, (.val (.int .i64))), (7, (.val (.sl 9 .str))), (8, (.val (.int .i64))), (9, (.val (.int .i64)))], [], []⟩
def impl_areNames_l0_x0 : Head := ⟨[(0, (.val (.sl 9 .str))), (1, (.val (.int .i64)))], [], []⟩
def impl_areNames_l0_F (k n : Nat) (x : impl_areNames_l0_h.T) (kx : Nat → St → Option Bool) : Option Bool := impl_areNames_l0 k n x.1.1 x.1.2.1 x.1.2.2.1 x.1.2.2.2.1 x.1.2.2.2.2.1 (fun (names0 : List (List UInt8)) (most1 : Int) => kx 0 (impl_areNames_l0_x0.fill ((names0, most1, ()), (), ())))
def impl_areNames_O (k : Nat) : Oracles Bool := ⟨fun n => bif Nat.beq n 2 then some (fun σ kx => impl_areNames_l0_h.get σ fun x => impl_areNames_l0_F k k x kx) else none, fun _ => none⟩
def fe_impl_areNames (k : Nat) : FE := ⟨(.pr (.sl 9 .str) (.int .i64)), 1, .bool, fun x => impl_areNames k x.1 x.2⟩
theorem impl_areNames_l0_ok (k : Nat) : LoopOK (mkEnv ti [(126, fe_impl_IsName k)] (lk []) pins0 pinB0) (impl_areNames_O k) (rdC (mkEnv ti [(126, fe_impl_IsName k)] (lk []) pins0 pinB0) [.tmp 4] .bool) ((loopsOf (codeOf Tryz.f77)).getD 0 .skip) (fun σ kx => impl_areNames_l0_h.get σ fun x => impl_areNames_l0_F k k x kx) := by
  refine ⟨impl_areNames_l0_h, [(0, impl_areNames_l0_x0)], fun n x kx => impl_areNames_l0_F k n x kx, k, by kernel_rfl, by kernel_rfl, fun x kx => by kernel_rfl, ?_, fun σ kx => rfl⟩
  rintro n ⟨⟨names0, most1, x7, x8, x9, ⟨⟩⟩, ⟨⟩, ⟨⟩⟩ kx
  kernel_rfl
theorem ok_impl_areNames (k : Nat) : FnOK Tryz.prog 77 (fe_impl_areNames k) := by
  refine closed_ok (tab := [(126, fe_impl_IsName k)]) (l := []) ti_ok ti_ht mix (List.forall_mem_cons.2 ⟨ok_impl_IsName k, (List.forall_mem_nil _)⟩) (List.forall_mem_nil _) ⟨⟨Tryz.f77, (codeOf Tryz.f77), [.tmp 4], (impl_areNames_O k), by kernel_rfl, by kernel_rfl, by kernel_rfl, by kernel_rfl, rfl, by decide, ⟨by kernel_rfl, ?_, ?_⟩, ?_⟩⟩
  · refine loops_of (n := 1) (by kernel_rfl) fun i hi => ?_
    match i, hi with
    | 0, _ => exact loop_of (by kernel_rfl) (impl_areNames_l0_ok k)
    | n + 1, hi => omega
  · exact no_cuts (by kernel_rfl)
  · rintro ⟨names0, most1⟩
    kernel_rfl
/- 128 slices.Index[[]string,string] -/
def slices_Index_string_l0 (k : Nat) : Nat → (List (List UInt8)) → (List UInt8) → Int → Int → (Option Int) → Option Int
  | 0, _, _, _, _, _ => none
  | n + 1, s0, v1, x7, x8, e_0 => (if (decide (x8 < x7)) = true then (if 0 ≤ x8 then (s0[x8.toNat]?).bind fun y_1 => (if (decide (v1 = y_1)) = true then some x8 else slices_Index_string_l0 k n s0 v1 x7 (w_i64 (x8 + 1)) e_0) else none) else e_0)
def slices_Index_string (k : Nat) (s0 : List (List UInt8)) (v1 : List UInt8) : Option Int := slices_Index_string_l0 k k s0 v1 (List.length s0 : Int) 0 (some (-1))
def slices_Index_string_l0_h : Head := ⟨[(0, (.val (.sl 9 .str))), (1, (.val .str)), (7, (.val (.int .i64))), (8, (.val (.int .i64)))], [], []⟩
def slices_Index_string_l0_x0 : Head := ⟨[], [], []⟩
def slices_Index_string_l0_F (k n : Nat) (x : slices_Index_string_l0_h.T) (kx : Nat → St → Option Int) : Option Int := slices_Index_string_l0 k n x.1.1 x.1.2.1 x.1.2.2.1 x.1.2.2.2.1 (kx 0 (slices_Index_string_l0_x0.fill ((), (), ())))
def slices_Index_string_O (k : Nat) : Oracles Int := ⟨fun n => bif Nat.beq n 2 then some (fun σ kx => slices_Index_string_l0_h.get σ fun x => slices_Index_string_l0_F k k x kx) else none, fun _ => none⟩
def fe_slices_Index_string (k : Nat) : FE := ⟨(.pr (.sl 9 .str) .str), 1, (.int .i64), fun x => slices_Index_string k x.1 x.2⟩
theorem slices_Index_string_l0_ok (k : Nat) : LoopOK (mkEnv ti [] (lk []) pins0 pinB0) (slices_Index_string_O k) (rdC (mkEnv ti [] (lk []) pins0 pinB0) [.tmp 4] (.int .i64)) ((loopsOf (codeOf Tryz.f128)).getD 0 .skip) (fun σ kx => slices_Index_string_l0_h.get σ fun x => slices_Index_string_l0_F k k x kx) := by
  refine ⟨slices_Index_string_l0_h, [(0, slices_Index_string_l0_x0)], fun n x kx => slices_Index_string_l0_F k n x kx, k, by kernel_rfl, by kernel_rfl, fun x kx => by kernel_rfl, ?_, fun σ kx => rfl⟩
  rintro n ⟨⟨s0, v1, x7, x8, ⟨⟩⟩, ⟨⟩, ⟨⟩⟩ kx
  kernel_rfl
theorem ok_slices_Index_string (k : Nat) : FnOK Tryz.prog 128 (fe_slices_Index_string k) := by
  refine closed_ok (tab := []) (l := []) ti_ok ti_ht mix (List.forall_mem_nil _) (List.forall_mem_nil _) ⟨⟨Tryz.f128, (codeOf Tryz.f128), [.tmp 4], (slices_Index_string_O k), by kernel_rfl, by kernel_rfl, by kernel_rfl, by kernel_rfl, rfl, by decide, ⟨by kernel_rfl, ?_, ?_⟩, ?_⟩⟩
  · refine loops_of (n := 1) (by kernel_rfl) fun i hi => ?_
    match i, hi with
    | 0, _ => exact loop_of (by kernel_rfl) (slices_Index_string_l0_ok k)
    | n + 1, hi => omega
  · exact no_cuts (by kernel_rfl)
  · rintro ⟨s0, v1⟩
    kernel_rfl
/- 80 slices.Contains[[]string,string] -/
def slices_Contains_string (k : Nat) (s0 : List (List UInt8)) (v1 : List UInt8) : Option Bool := (slices_Index_string k s0 v1).bind fun r_1 => some (decide (0 ≤ r_1))
def fe_slices_Contains_string (k : Nat) : FE := ⟨(.pr (.sl 9 .str) .str), 1, .bool, fun x => slices_Contains_string k x.1 x.2⟩
theorem ok_slices_Contains_string (k : Nat) : FnOK Tryz.prog 80 (fe_slices_Contains_string k) := by
  refine closed_ok (tab := [(128, fe_slices_Index_string k)]) (l := []) ti_ok ti_ht mix (List.forall_mem_cons.2 ⟨ok_slices_Index_string k, (List.forall_mem_nil _)⟩) (List.forall_mem_nil _) ⟨⟨Tryz.f80, (codeOf Tryz.f80), [.tmp 4], (LOn Bool), by kernel_rfl, by kernel_rfl, by kernel_rfl, by kernel_rfl, rfl, by decide, ⟨by kernel_rfl, ?_, ?_⟩, ?_⟩⟩
  · exact no_loops (by kernel_rfl)
  · exact no_cuts (by kernel_rfl)
  · rintro ⟨s0, v1⟩
    kernel_rfl
/- 79 loop.example/g01005/impl.ValidItems$1 -/
def impl_ValidItems_1 (k : Nat) (n0 : List UInt8) (x1 : List (List UInt8)) : Option Bool := (slices_Contains_string k x1 n0).bind fun r_1 => some (!r_1)
def fe_impl_ValidItems_1 (k : Nat) : FE := ⟨(.pr .str (.ptr (.sl 9 .str))), 1, .bool, fun x => impl_ValidItems_1 k x.1 x.2⟩
theorem ok_impl_ValidItems_1 (k : Nat) : FnOK Tryz.prog 79 (fe_impl_ValidItems_1 k) := by
  refine closed_ok (tab := [(80, fe_slices_Contains_string k)]) (l := []) ti_ok ti_ht mix (List.forall_mem_cons.2 ⟨ok_slices_Contains_string k, (List.forall_mem_nil _)⟩) (List.forall_mem_nil _) ⟨⟨Tryz.f79, (codeOf Tryz.f79), [.tmp 3], (LOn Bool), by kernel_rfl, by kernel_rfl, by kernel_rfl, by kernel_rfl, rfl, by decide, ⟨by kernel_rfl, ?_, ?_⟩, ?_⟩⟩
  · exact no_loops (by kernel_rfl)
  · exact no_cuts (by kernel_rfl)
  · rintro ⟨n0, x1⟩
    kernel_rfl
/- 127 slices.IndexFunc[[]string,string] -/
def slices_IndexFunc_string__impl_ValidItems_1_l0 (k : Nat) : Nat → (List (List UInt8)) → (List (List UInt8)) → Int → Int → (Option Int) → Option Int
  | 0, _, _, _, _, _ => none
  | n + 1, s0, f1, x7, x8, e_0 => (if (decide (x8 < x7)) = true then (if 0 ≤ x8 then (s0[x8.toNat]?).bind fun y_1 => (impl_ValidItems_1 k y_1 f1).bind fun r_2 => (if r_2 = true then some x8 else slices_IndexFunc_string__impl_ValidItems_1_l0 k n s0 f1 x7 (w_i64 (x8 + 1)) e_0) else none) else e_0)
def slices_IndexFunc_string__impl_ValidItems_1 (k : Nat) (s0 : List (List UInt8)) (f1 : List (List UInt8)) : Option Int := slices_IndexFunc_string__impl_ValidItems_1_l0 k k s0 f1 (List.length s0 : Int) 0 (some (-1))
def slices_IndexFunc_string__impl_ValidItems_1_l0_h : Head := ⟨[(0, (.val (.sl 9 .str))), (1, (.val (.fn 79 (.ptr (.sl 9 .str))))), (7, (.val (.int .i64))), (8, (.val (.int .i64)))], [], []⟩
def slices_IndexFunc_string__impl_ValidItems_1_l0_x0 : Head := ⟨[], [], []⟩
def slices_IndexFunc_string__impl_ValidItems_1_l0_F (k n : Nat) (x : slices_IndexFunc_string__impl_ValidItems_1_l0_h.T) (kx : Nat → St → Option Int) : Option Int := slices_IndexFunc_string__impl_ValidItems_1_l0 k n x.1.1 x.1.2.1 x.1.2.2.1 x.1.2.2.2.1 (kx 0 (slices_IndexFunc_string__impl_ValidItems_1_l0_x0.fill ((), (), ())))
def slices_IndexFunc_string__impl_ValidItems_1_O (k : Nat) : Oracles Int := ⟨fun n => bif Nat.beq n 2 then some (fun σ kx => slices_IndexFunc_string__impl_ValidItems_1_l0_h.get σ fun x => slices_IndexFunc_string__impl_ValidItems_1_l0_F k k x kx) else none, fun _ => none⟩
def fe_slices_IndexFunc_string__impl_ValidItems_1 (k : Nat) : FE := ⟨(.pr (.sl 9 .str) (.fn 79 (.ptr (.sl 9 .str)))), 1, (.int .i64), fun x => slices_IndexFunc_string__impl_ValidItems_1 k x.1 x.2⟩
theorem slices_IndexFunc_string__impl_ValidItems_1_l0_ok (k : Nat) : LoopOK (mkEnv ti [(79, fe_impl_ValidItems_1 k)] (lk []) pins0 pinB0) (slices_IndexFunc_string__impl_ValidItems_1_O k) (rdC (mkEnv ti [(79, fe_impl_ValidItems_1 k)] (lk []) pins0 pinB0) [.tmp 4] (.int .i64)) ((loopsOf (codeOf Tryz.f127)).getD 0 .skip) (fun σ kx => slices_IndexFunc_string__impl_ValidItems_1_l0_h.get σ fun x => slices_IndexFunc_string__impl_ValidItems_1_l0_F k k x kx) := by
  refine ⟨slices_IndexFunc_string__impl_ValidItems_1_l0_h, [(0, slices_IndexFunc_string__impl_ValidItems_1_l0_x0)], fun n x kx => slices_IndexFunc_string__impl_ValidItems_1_l0_F k n x kx, k, by kernel_rfl, by kernel_rfl, fun x kx => by kernel_rfl, ?_, fun σ kx => rfl⟩
  rintro n ⟨⟨s0, f1, x7, x8, ⟨⟩⟩, ⟨⟩, ⟨⟩⟩ kx
  kernel_rfl
theorem ok_slices_IndexFunc_string__impl_ValidItems_1 (k : Nat) : FnOK Tryz.prog 127 (fe_slices_IndexFunc_string__impl_ValidItems_1 k) := by
  refine closed_ok (tab := [(79, fe_impl_ValidItems_1 k)]) (l := []) ti_ok ti_ht mix (List.forall_mem_cons.2 ⟨ok_impl_ValidItems_1 k, (List.forall_mem_nil _)⟩) (List.forall_mem_nil _) ⟨⟨Tryz.f127, (codeOf Tryz.f127), [.tmp 4], (slices_IndexFunc_string__impl_ValidItems_1_O k), by kernel_rfl, by kernel_rfl, by kernel_rfl, by kernel_rfl, rfl, by decide, ⟨by kernel_rfl, ?_, ?_⟩, ?_⟩⟩
  · refine loops_of (n := 1) (by kernel_rfl) fun i hi => ?_
    match i, hi with
    | 0, _ => exact loop_of (by kernel_rfl) (slices_IndexFunc_string__impl_ValidItems_1_l0_ok k)
    | n + 1, hi => omega
  · exact no_cuts (by kernel_rfl)
  · rintro ⟨s0, f1⟩
    kernel_rfl
/- 78 slices.ContainsFunc[[]string,string] -/
def slices_ContainsFunc_string__impl_ValidItems_1 (k : Nat) (s0 : List (List UInt8)) (f1 : List (List UInt8)) : Option Bool := (slices_IndexFunc_string__impl_ValidItems_1 k s0 f1).bind fun r_1 => some (decide (0 ≤ r_1))
def fe_slices_ContainsFunc_string__impl_ValidItems_1 (k : Nat) : FE := ⟨(.pr (.sl 9 .str) (.fn 79 (.ptr (.sl 9 .str)))), 1, .bool, fun x => slices_ContainsFunc_string__impl_ValidItems_1 k x.1 x.2⟩
theorem ok_slices_ContainsFunc_string__impl_ValidItems_1 (k : Nat) : FnOK Tryz.prog 78 (fe_slices_ContainsFunc_string__impl_ValidItems_1 k) := by
  refine closed_ok (tab := [(127, fe_slices_IndexFunc_string__impl_ValidItems_1 k)]) (l := []) ti_ok ti_ht mix (List.forall_mem_cons.2 ⟨ok_slices_IndexFunc_string__impl_ValidItems_1 k, (List.forall_mem_nil _)⟩) (List.forall_mem_nil _) ⟨⟨Tryz.f78, (codeOf Tryz.f78), [.tmp 4], (LOn Bool), by kernel_rfl, by kernel_rfl, by kernel_rfl, by kernel_rfl, rfl, by decide, ⟨by kernel_rfl, ?_, ?_⟩, ?_⟩⟩
  · exact no_loops (by kernel_rfl)
  · exact no_cuts (by kernel_rfl)
  · rintro ⟨s0, f1⟩
    kernel_rfl
/- 131 loop.example/g01005/impl.makeOrder$1$1 -/
def impl_makeOrder_1_1 (k : Nat) (n0 : List UInt8) (x1 : List (List UInt8)) : Option Bool := (slices_Contains_string k x1 n0).bind fun r_1 => some (!r_1)
def fe_impl_makeOrder_1_1 (k : Nat) : FE := ⟨(.pr .str (.ptr (.sl 9 .str))), 1, .bool, fun x => impl_makeOrder_1_1 k x.1 x.2⟩
theorem ok_impl_makeOrder_1_1 (k : Nat) : FnOK Tryz.prog 131 (fe_impl_makeOrder_1_1 k) := by
  refine closed_ok (tab := [(80, fe_slices_Contains_string k)]) (l := []) ti_ok ti_ht mix (List.forall_mem_cons.2 ⟨ok_slices_Contains_string k, (List.forall_mem_nil _)⟩) (List.forall_mem_nil _) ⟨⟨Tryz.f131, (codeOf Tryz.f131), [.tmp 3], (LOn Bool), by kernel_rfl, by kernel_rfl, by kernel_rfl, by kernel_rfl, rfl, by decide, ⟨by kernel_rfl, ?_, ?_⟩, ?_⟩⟩
  · exact no_loops (by kernel_rfl)
  · exact no_cuts (by kernel_rfl)
  · rintro ⟨n0, x1⟩
    kernel_rfl
/- 127 slices.IndexFunc[[]string,string] -/
def slices_IndexFunc_string__impl_makeOrder_1_1_l0 (k : Nat) : Nat → (List (List UInt8)) → (List (List UInt8)) → Int → Int → (Option Int) → Option Int
  | 0, _, _, _, _, _ => none
  | n + 1, s0, f1, x7, x8, e_0 => (if (decide (x8 < x7)) = true then (if 0 ≤ x8 then (s0[x8.toNat]?).bind fun y_1 => (impl_makeOrder_1_1 k y_1 f1).bind fun r_2 => (if r_2 = true then some x8 else slices_IndexFunc_string__impl_makeOrder_1_1_l0 k n s0 f1 x7 (w_i64 (x8 + 1)) e_0) else none) else e_0)
def slices_IndexFunc_string__impl_makeOrder_1_1 (k : Nat) (s0 : List (List UInt8)) (f1 : List (List UInt8)) : Option Int := slices_IndexFunc_string__impl_makeOrder_1_1_l0 k k s0 f1 (List.length s0 : Int) 0 (some (-1))
def slices_IndexFunc_string__impl_makeOrder_1_1_l0_h : Head := ⟨[(0, (.val (.sl 9 .str))), (1, (.val (.fn 131 (.ptr (.sl 9 .str))))), (7, (.val (.int .i64))), (8, (.val (.int .i64)))], [], []⟩
def slices_IndexFunc_string__impl_makeOrder_1_1_l0_x0 : Head := ⟨[], [], []⟩
def slices_IndexFunc_string__impl_makeOrder_1_1_l0_F (k n : Nat) (x : slices_IndexFunc_string__impl_makeOrder_1_1_l0_h.T) (kx : Nat → St → Option Int) : Option Int := slices_IndexFunc_string__impl_makeOrder_1_1_l0 k n x.1.1 x.1.2.1 x.1.2.2.1 x.1.2.2.2.1 (kx 0 (slices_IndexFunc_string__impl_makeOrder_1_1_l0_x0.fill ((), (), ())))
def slices_IndexFunc_string__impl_makeOrder_1_1_O (k : Nat) : Oracles Int := ⟨fun n => bif Nat.beq n 2 then some (fun σ kx => slices_IndexFunc_string__impl_makeOrder_1_1_l0_h.get σ fun x => slices_IndexFunc_string__impl_makeOrder_1_1_l0_F k k x kx) else none, fun _ => none⟩
def fe_slices_IndexFunc_string__impl_makeOrder_1_1 (k : Nat) : FE := ⟨(.pr (.sl 9 .str) (.fn 131 (.ptr (.sl 9 .str)))), 1, (.int .i64), fun x => slices_IndexFunc_string__impl_makeOrder_1_1 k x.1 x.2⟩
theorem slices_IndexFunc_string__impl_makeOrder_1_1_l0_ok (k : Nat) : LoopOK (mkEnv ti [(131, fe_impl_makeOrder_1_1 k)] (lk []) pins0 pinB0) (slices_IndexFunc_string__impl_makeOrder_1_1_O k) (rdC (mkEnv ti [(131, fe_impl_makeOrder_1_1 k)] (lk []) pins0 pinB0) [.tmp 4] (.int .i64)) ((loopsOf (codeOf Tryz.f127)).getD 0 .skip) (fun σ kx => slices_IndexFunc_string__impl_makeOrder_1_1_l0_h.get σ fun x => slices_IndexFunc_string__impl_makeOrder_1_1_l0_F k k x kx) := by
  refine ⟨slices_IndexFunc_string__impl_makeOrder_1_1_l0_h, [(0, slices_IndexFunc_string__impl_makeOrder_1_1_l0_x0)], fun n x kx => slices_IndexFunc_string__impl_makeOrder_1_1_l0_F k n x kx, k, by kernel_rfl, by kernel_rfl, fun x kx => by kernel_rfl, ?_, fun σ kx => rfl⟩
  rintro n ⟨⟨s0, f1, x7, x8, ⟨⟩⟩, ⟨⟩, ⟨⟩⟩ kx
  kernel_rfl
theorem ok_slices_IndexFunc_string__impl_makeOrder_1_1 (k : Nat) : FnOK Tryz.prog 127 (fe_slices_IndexFunc_string__impl_makeOrder_1_1 k) := by
  refine closed_ok (tab := [(131, fe_impl_makeOrder_1_1 k)]) (l := []) ti_ok ti_ht mix (List.forall_mem_cons.2 ⟨ok_impl_makeOrder_1_1 k, (List.forall_mem_nil _)⟩) (List.forall_mem_nil _) ⟨⟨Tryz.f127, (codeOf Tryz.f127), [.tmp 4], (slices_IndexFunc_string__impl_makeOrder_1_1_O k), by kernel_rfl, by kernel_rfl, by kernel_rfl, by kernel_rfl, rfl, by decide, ⟨by kernel_rfl, ?_, ?_⟩, ?_⟩⟩
  · refine loops_of (n := 1) (by kernel_rfl) fun i hi => ?_
    match i, hi with
    | 0, _ => exact loop_of (by kernel_rfl) (slices_IndexFunc_string__impl_makeOrder_1_1_l0_ok k)
    | n + 1, hi => omega
  · exact no_cuts (by kernel_rfl)
  · rintro ⟨s0, f1⟩
    kernel_rfl
/- 78 slices.ContainsFunc[[]string,string] -/
def slices_ContainsFunc_string__impl_makeOrder_1_1 (k : Nat) (s0 : List (List UInt8)) (f1 : List (List UInt8)) : Option Bool := (slices_IndexFunc_string__impl_makeOrder_1_1 k s0 f1).bind fun r_1 => some (decide (0 ≤ r_1))
def fe_slices_ContainsFunc_string__impl_makeOrder_1_1 (k : Nat) : FE := ⟨(.pr (.sl 9 .str) (.fn 131 (.ptr (.sl 9 .str)))), 1, .bool, fun x => slices_ContainsFunc_string__impl_makeOrder_1_1 k x.1 x.2⟩
theorem ok_slices_ContainsFunc_string__impl_makeOrder_1_1 (k : Nat) : FnOK Tryz.prog 78 (fe_slices_ContainsFunc_string__impl_makeOrder_1_1 k) := by
  refine closed_ok (tab := [(127, fe_slices_IndexFunc_string__impl_makeOrder_1_1 k)]) (l := []) ti_ok ti_ht mix (List.forall_mem_cons.2 ⟨ok_slices_IndexFunc_string__impl_makeOrder_1_1 k, (List.forall_mem_nil _)⟩) (List.forall_mem_nil _) ⟨⟨Tryz.f78, (codeOf Tryz.f78), [.tmp 4], (LOn Bool), by kernel_rfl, by kernel_rfl, by kernel_rfl, by kernel_rfl, rfl, by decide, ⟨by kernel_rfl, ?_, ?_⟩, ?_⟩⟩
  · exact no_loops (by kernel_rfl)
  · exact no_cuts (by kernel_rfl)
  · rintro ⟨s0, f1⟩
    kernel_rfl
/- 130 loop.example/g01005/impl.makeOrder$1 -/
def impl_makeOrder_1 (k : Nat) (x0 : List UInt8 × List (List UInt8) × Int × Int) (x1 : List (List UInt8)) : Option Bool := (slices_Contains_string k x1 x0.1).bind fun r_1 => (if (!r_1) = true then (slices_ContainsFunc_string__impl_makeOrder_1_1 k x0.2.1 x1).bind fun r_2 => some (!r_2) else some false)
def fe_impl_makeOrder_1 (k : Nat) : FE := ⟨(.pr (.st (.pr .str (.pr (.sl 9 .str) (.pr (.int .i64) (.int .i64))))) (.ptr (.sl 9 .str))), 1, .bool, fun x => impl_makeOrder_1 k x.1 x.2⟩
theorem ok_impl_makeOrder_1 (k : Nat) : FnOK Tryz.prog 130 (fe_impl_makeOrder_1 k) := by
  refine closed_ok (tab := [(80, fe_slices_Contains_string k), (78, fe_slices_ContainsFunc_string__impl_makeOrder_1_1 k)]) (l := []) ti_ok ti_ht mix (List.forall_mem_cons.2 ⟨ok_slices_Contains_string k, (List.forall_mem_cons.2 ⟨ok_slices_ContainsFunc_string__impl_makeOrder_1_1 k, (List.forall_mem_nil _)⟩)⟩) (List.forall_mem_nil _) ⟨⟨Tryz.f130, (codeOf Tryz.f130), [.tmp 3], (LOn Bool), by kernel_rfl, by kernel_rfl, by kernel_rfl, by kernel_rfl, rfl, by decide, ⟨by kernel_rfl, ?_, ?_⟩, ?_⟩⟩
  · exact no_loops (by kernel_rfl)
  · exact no_cuts (by kernel_rfl)
  · rintro ⟨x0, x1⟩
    kernel_rfl
/- 129 slices.IndexFunc[[]loop.example/g01005/impl.Item,loop.example/g01005/impl.Item] -/
def slices_IndexFunc_impl_Item__impl_makeOrder_1_l0 (k : Nat) : Nat → (List (List UInt8 × List (List UInt8) × Int × Int)) → (List (List UInt8)) → Int → Int → (Option Int) → Option Int
  | 0, _, _, _, _, _ => none
  | n + 1, s0, f1, x7, x8, e_0 => (if (decide (x8 < x7)) = true then (if 0 ≤ x8 then (s0[x8.toNat]?).bind fun y_1 => (impl_makeOrder_1 k y_1 f1).bind fun r_2 => (if r_2 = true then some x8 else slices_IndexFunc_impl_Item__impl_makeOrder_1_l0 k n s0 f1 x7 (w_i64 (x8 + 1)) e_0) else none) else e_0)
def slices_IndexFunc_impl_Item__impl_makeOrder_1 (k : Nat) (s0 : List (List UInt8 × List (List UInt8) × Int × Int)) (f1 : List (List UInt8)) : Option Int := slices_IndexFunc_impl_Item__impl_makeOrder_1_l0 k k s0 f1 (List.length s0 : Int) 0 (some (-1))
def slices_IndexFunc_impl_Item__impl_makeOrder_1_l0_h : Head := ⟨[(0, (.val (.sl 117 (.st (.pr .str (.pr (.sl 9 .str) (.pr (.int .i64) (.int .i64)))))))), (1, (.val (.fn 130 (.ptr (.sl 9 .str))))), (7, (.val (.int .i64))), (8, (.val (.int .i64)))], [], []⟩
def slices_IndexFunc_impl_Item__impl_makeOrder_1_l0_x0 : Head := ⟨[], [], []⟩
def slices_IndexFunc_impl_Item__impl_makeOrder_1_l0_F (k n : Nat) (x : slices_IndexFunc_impl_Item__impl_makeOrder_1_l0_h.T) (kx : Nat → St → Option Int) : Option Int := slices_IndexFunc_impl_Item__impl_makeOrder_1_l0 k n x.1.1 x.1.2.1 x.1.2.2.1 x.1.2.2.2.1 (kx 0 (slices_IndexFunc_impl_Item__impl_makeOrder_1_l0_x0.fill ((), (), ())))
def slices_IndexFunc_impl_Item__impl_makeOrder_1_O (k : Nat) : Oracles Int := ⟨fun n => bif Nat.beq n 2 then some (fun σ kx => slices_IndexFunc_impl_Item__impl_makeOrder_1_l0_h.get σ fun x => slices_IndexFunc_impl_Item__impl_makeOrder_1_l0_F k k x kx) else none, fun _ => none⟩
def fe_slices_IndexFunc_impl_Item__impl_makeOrder_1 (k : Nat) : FE := ⟨(.pr (.sl 117 (.st (.pr .str (.pr (.sl 9 .str) (.pr (.int .i64) (.int .i64)))))) (.fn 130 (.ptr (.sl 9 .str)))), 1, (.int .i64), fun x => slices_IndexFunc_impl_Item__impl_makeOrder_1 k x.1 x.2⟩
theorem slices_IndexFunc_impl_Item__impl_makeOrder_1_l0_ok (k : Nat) : LoopOK (mkEnv ti [(130, fe_impl_makeOrder_1 k)] (lk []) pins0 pinB0) (slices_IndexFunc_impl_Item__impl_makeOrder_1_O k) (rdC (mkEnv ti [(130, fe_impl_makeOrder_1 k)] (lk []) pins0 pinB0) [.tmp 4] (.int .i64)) ((loopsOf (codeOf Tryz.f129)).getD 0 .skip) (fun σ kx => slices_IndexFunc_impl_Item__impl_makeOrder_1_l0_h.get σ fun x => slices_IndexFunc_impl_Item__impl_makeOrder_1_l0_F k k x kx) := by
  refine ⟨slices_IndexFunc_impl_Item__impl_makeOrder_1_l0_h, [(0, slices_IndexFunc_impl_Item__impl_makeOrder_1_l0_x0)], fun n x kx => slices_IndexFunc_impl_Item__impl_makeOrder_1_l0_F k n x kx, k, by kernel_rfl, by kernel_rfl, fun x kx => by kernel_rfl, ?_, fun σ kx => rfl⟩
  rintro n ⟨⟨s0, f1, x7, x8, ⟨⟩⟩, ⟨⟩, ⟨⟩⟩ kx
  kernel_rfl
theorem ok_slices_IndexFunc_impl_Item__impl_makeOrder_1 (k : Nat) : FnOK Tryz.prog 129 (fe_slices_IndexFunc_impl_Item__impl_makeOrder_1 k) := by
  refine closed_ok (tab := [(130, fe_impl_makeOrder_1 k)]) (l := []) ti_ok ti_ht mix (List.forall_mem_cons.2 ⟨ok_impl_makeOrder_1 k, (List.forall_mem_nil _)⟩) (List.forall_mem_nil _) ⟨⟨Tryz.f129, (codeOf Tryz.f129), [.tmp 4], (slices_IndexFunc_impl_Item__impl_makeOrder_1_O k), by kernel_rfl, by kernel_rfl, by kernel_rfl, by kernel_rfl, rfl, by decide, ⟨by kernel_rfl, ?_, ?_⟩, ?_⟩⟩
  · refine loops_of (n := 1) (by kernel_rfl) fun i hi => ?_
    match i, hi with
    | 0, _ => exact loop_of (by kernel_rfl) (slices_IndexFunc_impl_Item__impl_makeOrder_1_l0_ok k)
    | n + 1, hi => omega
  · exact no_cuts (by kernel_rfl)
  · rintro ⟨s0, f1⟩
    kernel_rfl
end
end Go.Proofs.YtmmkijdfiaaobaaGreat.Ev
