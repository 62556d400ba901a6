/- Functions of the program, as plain ones. No conditions. -/
import Derived.Test.YtmmkijdfiaaobaaGreatG4
import Derived.KernelRfl
set_option linter.unusedVariables false
set_option maxRecDepth 100000
namespace Go.Proofs.YtmmkijdfiaaobaaGreat.Ev
open Go.RowKit
noncomputable section
/- 103 loop.example/g01005/spec.l02Numbers -/
def spec_l02Numbers_l0 (k : Nat) : Nat → (List Int) → Int → Int → ((List Int) → Option Bool) → Option Bool
  | 0, _, _, _, _ => none
  | n + 1, v0, p1, i5, e_0 => (if (decide (i5 < (List.length v0 : Int))) = true then (if 0 ≤ i5 then (v0[i5.toNat]?).bind fun y_1 => (spec_l00In y_1 0 (w_i64 (p1 - 1))).bind fun r_2 => (if (!r_2) = true then some false else spec_l02Numbers_l0 k n v0 p1 (w_i64 (i5 + 1)) e_0) else none) else e_0 v0)
def spec_l02Numbers (k : Nat) (v0 : List Int) (p1 : Int) : Option Bool := spec_l02Numbers_l0 k k v0 p1 0 (fun v_3 => some (decide ((List.length v_3 : Int) ≤ 64)))
def spec_l02Numbers_l0_h : Head := ⟨[(0, (.val (.sl 2 (.int .i64)))), (1, (.val (.int .i64))), (5, (.val (.int .i64)))], [], []⟩
def spec_l02Numbers_l0_x0 : Head := ⟨[(0, (.val (.sl 2 (.int .i64))))], [], []⟩
def spec_l02Numbers_l0_F (k n : Nat) (x : spec_l02Numbers_l0_h.T) (kx : Nat → St → Option Bool) : Option Bool := spec_l02Numbers_l0 k n x.1.1 x.1.2.1 x.1.2.2.1 (fun (v0 : List Int) => kx 0 (spec_l02Numbers_l0_x0.fill ((v0, ()), (), ())))
def spec_l02Numbers_O (k : Nat) : Oracles Bool := ⟨fun n => bif Nat.beq n 2 then some (fun σ kx => spec_l02Numbers_l0_h.get σ fun x => spec_l02Numbers_l0_F k k x kx) else none, fun _ => none⟩
def fe_spec_l02Numbers (k : Nat) : FE := ⟨(.pr (.sl 2 (.int .i64)) (.int .i64)), 1, .bool, fun x => spec_l02Numbers k x.1 x.2⟩
theorem spec_l02Numbers_l0_ok (k : Nat) : LoopOK (mkEnv ti [(97, fe_spec_l00In)] (lk []) pins0 pinB0) (spec_l02Numbers_O k) (rdC (mkEnv ti [(97, fe_spec_l00In)] (lk []) pins0 pinB0) [.tmp 4] .bool) ((loopsOf (codeOf Tryz.f103)).getD 0 .skip) (fun σ kx => spec_l02Numbers_l0_h.get σ fun x => spec_l02Numbers_l0_F k k x kx) := by
  refine ⟨spec_l02Numbers_l0_h, [(0, spec_l02Numbers_l0_x0)], fun n x kx => spec_l02Numbers_l0_F k n x kx, k, by kernel_rfl, by kernel_rfl, fun x kx => by kernel_rfl, ?_, fun σ kx => rfl⟩
  rintro n ⟨⟨v0, p1, i5, ⟨⟩⟩, ⟨⟩, ⟨⟩⟩ kx
  kernel_rfl
theorem ok_spec_l02Numbers (k : Nat) : FnOK Tryz.prog 103 (fe_spec_l02Numbers k) := by
  refine closed_ok (tab := [(97, fe_spec_l00In)]) (l := []) ti_ok ti_ht mix (List.forall_mem_cons.2 ⟨ok_spec_l00In, (List.forall_mem_nil _)⟩) (List.forall_mem_nil _) ⟨⟨Tryz.f103, (codeOf Tryz.f103), [.tmp 4], (spec_l02Numbers_O k), by kernel_rfl, by kernel_rfl, by kernel_rfl, by kernel_rfl, rfl, by decide, ⟨by kernel_rfl, ?_, ?_⟩, ?_⟩⟩
  · refine loops_of (n := 1) (by kernel_rfl) fun i hi => ?_
    match i, hi with
    | 0, _ => exact loop_of (by kernel_rfl) (spec_l02Numbers_l0_ok k)
    | n + 1, hi => omega
  · exact no_cuts (by kernel_rfl)
  · rintro ⟨v0, p1⟩
    kernel_rfl
/- 51 loop.example/g01005/spec.l04Vector -/
def spec_l04Vector (k : Nat) (p0 : Int) (length1 : Int) (x2 : List Int) : Option Bool := (spec_l02Numbers k x2 p0).bind fun r_1 => (if r_1 = true then some (decide ((List.length x2 : Int) = length1)) else some false)
def fe_spec_l04Vector (k : Nat) : FE := ⟨(.pr (.int .i64) (.pr (.int .i64) (.sl 2 (.int .i64)))), 1, .bool, fun x => spec_l04Vector k x.1 x.2.1 x.2.2⟩
theorem ok_spec_l04Vector (k : Nat) : FnOK Tryz.prog 51 (fe_spec_l04Vector k) := by
  refine closed_ok (tab := [(103, fe_spec_l02Numbers k)]) (l := []) ti_ok ti_ht mix (List.forall_mem_cons.2 ⟨ok_spec_l02Numbers k, (List.forall_mem_nil _)⟩) (List.forall_mem_nil _) ⟨⟨Tryz.f51, (codeOf Tryz.f51), [.tmp 6], (LOn Bool), by kernel_rfl, by kernel_rfl, by kernel_rfl, by kernel_rfl, rfl, by decide, ⟨by kernel_rfl, ?_, ?_⟩, ?_⟩⟩
  · exact no_loops (by kernel_rfl)
  · exact no_cuts (by kernel_rfl)
  · rintro ⟨p0, length1, x2⟩
    kernel_rfl
/- 53 loop.example/g01005/spec.l16Vector -/
def spec_l16Vector_l0 (k : Nat) : Nat → (Int × List (Int × Int × Int)) → (List Int) → Int → ((Int × List (Int × Int × Int)) → (List Int) → Option Bool) → Option Bool
  | 0, _, _, _, _ => none
  | n + 1, g0, x1, i5, e_0 => (if (decide (i5 < (List.length x1 : Int))) = true then (if 0 ≤ i5 then (x1[i5.toNat]?).bind fun y_1 => (spec_l00In y_1 (-1000000) 1000000).bind fun r_2 => (if (!r_2) = true then some false else spec_l16Vector_l0 k n g0 x1 (w_i64 (i5 + 1)) e_0) else none) else e_0 g0 x1)
def spec_l16Vector (k : Nat) (g0 : Int × List (Int × Int × Int)) (x1 : List Int) : Option Bool := spec_l16Vector_l0 k k g0 x1 0 (fun g_3 x_4 => some (decide ((List.length x_4 : Int) = g_3.1)))
def spec_l16Vector_l0_h : Head := ⟨[(0, (.val (.ptr (.st (.pr (.int .i64) (.sl 128 (.st (.pr (.int .i64) (.pr (.int .i64) (.int .i64)))))))))), (1, (.val (.sl 2 (.int .i64)))), (5, (.val (.int .i64)))], [], []⟩
def spec_l16Vector_l0_x0 : Head := ⟨[(0, (.val (.ptr (.st (.pr (.int .i64) (.sl 128 (.st (.pr (.int .i64) (.pr (.int .i64) (.int .i64)))))))))), (1, (.val (.sl 2 (.int .i64))))], [], []⟩
def spec_l16Vector_l0_F (k n : Nat) (x : spec_l16Vector_l0_h.T) (kx : Nat → St → Option Bool) : Option Bool := spec_l16Vector_l0 k n x.1.1 x.1.2.1 x.1.2.2.1 (fun (g0 : Int × List (Int × Int × Int)) (x1 : List Int) => kx 0 (spec_l16Vector_l0_x0.fill ((g0, x1, ()), (), ())))
def spec_l16Vector_O (k : Nat) : Oracles Bool := ⟨fun n => bif Nat.beq n 2 then some (fun σ kx => spec_l16Vector_l0_h.get σ fun x => spec_l16Vector_l0_F k k x kx) else none, fun _ => none⟩
def fe_spec_l16Vector (k : Nat) : FE := ⟨(.pr (.ptr (.st (.pr (.int .i64) (.sl 128 (.st (.pr (.int .i64) (.pr (.int .i64) (.int .i64)))))))) (.sl 2 (.int .i64))), 1, .bool, fun x => spec_l16Vector k x.1 x.2⟩
theorem spec_l16Vector_l0_ok (k : Nat) : LoopOK (mkEnv ti [(97, fe_spec_l00In)] (lk []) pins0 pinB0) (spec_l16Vector_O k) (rdC (mkEnv ti [(97, fe_spec_l00In)] (lk []) pins0 pinB0) [.tmp 4] .bool) ((loopsOf (codeOf Tryz.f53)).getD 0 .skip) (fun σ kx => spec_l16Vector_l0_h.get σ fun x => spec_l16Vector_l0_F k k x kx) := by
  refine ⟨spec_l16Vector_l0_h, [(0, spec_l16Vector_l0_x0)], fun n x kx => spec_l16Vector_l0_F k n x kx, k, by kernel_rfl, by kernel_rfl, fun x kx => by kernel_rfl, ?_, fun σ kx => rfl⟩
  rintro n ⟨⟨g0, x1, i5, ⟨⟩⟩, ⟨⟩, ⟨⟩⟩ kx
  kernel_rfl
theorem ok_spec_l16Vector (k : Nat) : FnOK Tryz.prog 53 (fe_spec_l16Vector k) := by
  refine closed_ok (tab := [(97, fe_spec_l00In)]) (l := []) ti_ok ti_ht mix (List.forall_mem_cons.2 ⟨ok_spec_l00In, (List.forall_mem_nil _)⟩) (List.forall_mem_nil _) ⟨⟨Tryz.f53, (codeOf Tryz.f53), [.tmp 4], (spec_l16Vector_O k), by kernel_rfl, by kernel_rfl, by kernel_rfl, by kernel_rfl, rfl, by decide, ⟨by kernel_rfl, ?_, ?_⟩, ?_⟩⟩
  · refine loops_of (n := 1) (by kernel_rfl) fun i hi => ?_
    match i, hi with
    | 0, _ => exact loop_of (by kernel_rfl) (spec_l16Vector_l0_ok k)
    | n + 1, hi => omega
  · exact no_cuts (by kernel_rfl)
  · rintro ⟨g0, x1⟩
    kernel_rfl
/- 16 loop.example/g01005/spec.l32Ok -/
def spec_l32Ok (k : Nat) (d0 : (List (List Int) × Int × List Int × List (Int × Int × Int × List Int)) × List Int × (Int × List (Int × Int × Int)) × List Int × (Int × Int × Int × List Int) × (List (List Int × List (List Int))) × (List (List Int) × List Int) × List (List UInt8 × List (List UInt8) × Int × Int)) : Option Bool := (spec_l09Ok k d0.1).bind fun r_1 => (if (!r_1) = true then some false else (spec_l16Ok k d0.2.2.1).bind fun r_2 => (if (!r_2) = true then some false else (spec_l03Ok k d0.2.2.2.2.1).bind fun r_3 => (if (!r_3) = true then some false else (spec_l20List k d0.2.2.2.2.2.1).bind fun r_4 => (if (!r_4) = true then some false else (spec_l21Ok k d0.2.2.2.2.2.2.1).bind fun r_5 => (if (!r_5) = true then some false else (spec_l28Ok k d0.2.2.2.2.2.2.2).bind fun r_6 => (if (!r_6) = true then some false else (spec_l10All k d0.1).bind fun r_7 => (spec_l04Vector k d0.1.2.1 r_7 d0.2.1).bind fun r_8 => (if r_8 = true then (spec_l16Vector k d0.2.2.1 d0.2.2.2.1).bind fun r_9 => some r_9 else some false)))))))
def fe_spec_l32Ok (k : Nat) : FE := ⟨(.ptr (.st (.pr (.st (.pr (.st (.sl 25 (.sl 2 (.int .i64)))) (.pr (.int .i64) (.pr (.sl 2 (.int .i64)) (.sl 49 (.st (.pr (.int .i64) (.pr (.int .i64) (.pr (.int .i64) (.sl 2 (.int .i64))))))))))) (.pr (.sl 2 (.int .i64)) (.pr (.st (.pr (.int .i64) (.sl 128 (.st (.pr (.int .i64) (.pr (.int .i64) (.int .i64))))))) (.pr (.sl 2 (.int .i64)) (.pr (.st (.pr (.int .i64) (.pr (.int .i64) (.pr (.int .i64) (.sl 2 (.int .i64)))))) (.pr (.sl 115 (.st (.pr (.sl 2 (.int .i64)) (.sl 25 (.sl 2 (.int .i64)))))) (.pr (.st (.pr (.st (.sl 25 (.sl 2 (.int .i64)))) (.sl 2 (.int .i64)))) (.sl 117 (.st (.pr .str (.pr (.sl 9 .str) (.pr (.int .i64) (.int .i64))))))))))))))), 1, .bool, fun x => spec_l32Ok k x⟩
theorem ok_spec_l32Ok (k : Nat) : FnOK Tryz.prog 16 (fe_spec_l32Ok k) := by
  refine closed_ok (tab := [(45, fe_spec_l09Ok k), (46, fe_spec_l16Ok k), (47, fe_spec_l03Ok k), (48, fe_spec_l20List k), (49, fe_spec_l21Ok k), (50, fe_spec_l28Ok k), (52, fe_spec_l10All k), (51, fe_spec_l04Vector k), (53, fe_spec_l16Vector k)]) (l := []) ti_ok ti_ht mix (List.forall_mem_cons.2 ⟨ok_spec_l09Ok k, (List.forall_mem_cons.2 ⟨ok_spec_l16Ok k, (List.forall_mem_cons.2 ⟨ok_spec_l03Ok k, (List.forall_mem_cons.2 ⟨ok_spec_l20List k, (List.forall_mem_cons.2 ⟨ok_spec_l21Ok k, (List.forall_mem_cons.2 ⟨ok_spec_l28Ok k, (List.forall_mem_cons.2 ⟨ok_spec_l10All k, (List.forall_mem_cons.2 ⟨ok_spec_l04Vector k, (List.forall_mem_cons.2 ⟨ok_spec_l16Vector k, (List.forall_mem_nil _)⟩)⟩)⟩)⟩)⟩)⟩)⟩)⟩)⟩) (List.forall_mem_nil _) ⟨⟨Tryz.f16, (codeOf Tryz.f16), [.tmp 2], (LOn Bool), by kernel_rfl, by kernel_rfl, by kernel_rfl, by kernel_rfl, rfl, by decide, ⟨by kernel_rfl, ?_, ?_⟩, ?_⟩⟩
  · exact no_loops (by kernel_rfl)
  · exact no_cuts (by kernel_rfl)
  · rintro d0
    kernel_rfl
/- 5 loop.example/g01005/spec.ValidDesk -/
def spec_ValidDesk (k : Nat) (d0 : (List (List Int) × Int × List Int × List (Int × Int × Int × List Int)) × List Int × (Int × List (Int × Int × Int)) × List Int × (Int × Int × Int × List Int) × (List (List Int × List (List Int))) × (List (List Int) × List Int) × List (List UInt8 × List (List UInt8) × Int × Int)) : Option Bool := (spec_l32Ok k d0).bind fun r_1 => some r_1
def fe_spec_ValidDesk (k : Nat) : FE := ⟨(.st (.pr (.st (.pr (.st (.sl 25 (.sl 2 (.int .i64)))) (.pr (.int .i64) (.pr (.sl 2 (.int .i64)) (.sl 49 (.st (.pr (.int .i64) (.pr (.int .i64) (.pr (.int .i64) (.sl 2 (.int .i64))))))))))) (.pr (.sl 2 (.int .i64)) (.pr (.st (.pr (.int .i64) (.sl 128 (.st (.pr (.int .i64) (.pr (.int .i64) (.int .i64))))))) (.pr (.sl 2 (.int .i64)) (.pr (.st (.pr (.int .i64) (.pr (.int .i64) (.pr (.int .i64) (.sl 2 (.int .i64)))))) (.pr (.sl 115 (.st (.pr (.sl 2 (.int .i64)) (.sl 25 (.sl 2 (.int .i64)))))) (.pr (.st (.pr (.st (.sl 25 (.sl 2 (.int .i64)))) (.sl 2 (.int .i64)))) (.sl 117 (.st (.pr .str (.pr (.sl 9 .str) (.pr (.int .i64) (.int .i64)))))))))))))), 1, .bool, fun x => spec_ValidDesk k x⟩
theorem ok_spec_ValidDesk (k : Nat) : FnOK Tryz.prog 5 (fe_spec_ValidDesk k) := by
  refine closed_ok (tab := [(16, fe_spec_l32Ok k)]) (l := []) ti_ok ti_ht mix (List.forall_mem_cons.2 ⟨ok_spec_l32Ok k, (List.forall_mem_nil _)⟩) (List.forall_mem_nil _) ⟨⟨Tryz.f5, (codeOf Tryz.f5), [.tmp 2], (LOn Bool), by kernel_rfl, by kernel_rfl, by kernel_rfl, by kernel_rfl, rfl, by decide, ⟨by kernel_rfl, ?_, ?_⟩, ?_⟩⟩
  · exact no_loops (by kernel_rfl)
  · exact no_cuts (by kernel_rfl)
  · rintro d0
    kernel_rfl
/- 122 loop.example/g01005/impl.isRising -/
def impl_isRising_l0 (k : Nat) : Nat → (List Int) → Int → (Option Bool) → Option Bool
  | 0, _, _, _ => none
  | n + 1, list0, k3, e_0 => (if (decide (k3 < (List.length list0 : Int))) = true then (if 0 ≤ (w_i64 (k3 - 1)) then (list0[(w_i64 (k3 - 1)).toNat]?).bind fun y_1 => (if 0 ≤ k3 then (list0[k3.toNat]?).bind fun y_2 => (if (decide (y_2 ≤ y_1)) = true then some false else impl_isRising_l0 k n list0 (w_i64 (k3 + 1)) e_0) else none) else none) else e_0)
def impl_isRising (k : Nat) (list0 : List Int) : Option Bool := impl_isRising_l0 k k list0 1 (some true)
def impl_isRising_l0_h : Head := ⟨[(0, (.val (.sl 2 (.int .i64)))), (3, (.val (.int .i64)))], [], []⟩
def impl_isRising_l0_x0 : Head := ⟨[], [], []⟩
def impl_isRising_l0_F (k n : Nat) (x : impl_isRising_l0_h.T) (kx : Nat → St → Option Bool) : Option Bool := impl_isRising_l0 k n x.1.1 x.1.2.1 (kx 0 (impl_isRising_l0_x0.fill ((), (), ())))
def impl_isRising_O (k : Nat) : Oracles Bool := ⟨fun n => bif Nat.beq n 2 then some (fun σ kx => impl_isRising_l0_h.get σ fun x => impl_isRising_l0_F k k x kx) else none, fun _ => none⟩
def fe_impl_isRising (k : Nat) : FE := ⟨(.sl 2 (.int .i64)), 1, .bool, fun x => impl_isRising k x⟩
theorem impl_isRising_l0_ok (k : Nat) : LoopOK (mkEnv ti [] (lk []) pins0 pinB0) (impl_isRising_O k) (rdC (mkEnv ti [] (lk []) pins0 pinB0) [.tmp 2] .bool) ((loopsOf (codeOf Tryz.f122)).getD 0 .skip) (fun σ kx => impl_isRising_l0_h.get σ fun x => impl_isRising_l0_F k k x kx) := by
  refine ⟨impl_isRising_l0_h, [(0, impl_isRising_l0_x0)], fun n x kx => impl_isRising_l0_F k n x kx, k, by kernel_rfl, by kernel_rfl, fun x kx => by kernel_rfl, ?_, fun σ kx => rfl⟩
  rintro n ⟨⟨list0, k3, ⟨⟩⟩, ⟨⟩, ⟨⟩⟩ kx
  kernel_rfl
theorem ok_impl_isRising (k : Nat) : FnOK Tryz.prog 122 (fe_impl_isRising k) := by
  refine closed_ok (tab := []) (l := []) ti_ok ti_ht mix (List.forall_mem_nil _) (List.forall_mem_nil _) ⟨⟨Tryz.f122, (codeOf Tryz.f122), [.tmp 2], (impl_isRising_O k), by kernel_rfl, by kernel_rfl, by kernel_rfl, by kernel_rfl, rfl, by decide, ⟨by kernel_rfl, ?_, ?_⟩, ?_⟩⟩
  · refine loops_of (n := 1) (by kernel_rfl) fun i hi => ?_
    match i, hi with
    | 0, _ => exact loop_of (by kernel_rfl) (impl_isRising_l0_ok k)
    | n + 1, hi => omega
  · exact no_cuts (by kernel_rfl)
  · rintro list0
    kernel_rfl
/- 64 loop.example/g01005/impl.within -/
def impl_within (n0 : Int) (low1 : Int) (high2 : Int) : Option Bool := (if (decide (low1 ≤ n0)) = true then some (decide (n0 ≤ high2)) else some false)
def fe_impl_within : FE := ⟨(.pr (.int .i64) (.pr (.int .i64) (.int .i64))), 1, .bool, fun x => impl_within x.1 x.2.1 x.2.2⟩
theorem ok_impl_within : FnOK Tryz.prog 64 (fe_impl_within) := by
  refine closed_ok (tab := []) (l := []) ti_ok ti_ht mix (List.forall_mem_nil _) (List.forall_mem_nil _) ⟨⟨Tryz.f64, (codeOf Tryz.f64), [.tmp 6], (LOn Bool), by kernel_rfl, by kernel_rfl, by kernel_rfl, by kernel_rfl, rfl, by decide, ⟨by kernel_rfl, ?_, ?_⟩, ?_⟩⟩
  · exact no_loops (by kernel_rfl)
  · exact no_cuts (by kernel_rfl)
  · rintro ⟨n0, low1, high2⟩
    kernel_rfl
/- 146 loop.example/g01005/impl.isVertex -/
def impl_isVertex (v0 : Int) : Option Bool := (impl_within v0 0 9).bind fun r_1 => some r_1
def fe_impl_isVertex : FE := ⟨(.int .i64), 1, .bool, fun x => impl_isVertex x⟩
theorem ok_impl_isVertex : FnOK Tryz.prog 146 (fe_impl_isVertex) := by
  refine closed_ok (tab := [(64, fe_impl_within)]) (l := []) ti_ok ti_ht mix (List.forall_mem_cons.2 ⟨ok_impl_within, (List.forall_mem_nil _)⟩) (List.forall_mem_nil _) ⟨⟨Tryz.f146, (codeOf Tryz.f146), [.tmp 2], (LOn Bool), by kernel_rfl, by kernel_rfl, by kernel_rfl, by kernel_rfl, rfl, by decide, ⟨by kernel_rfl, ?_, ?_⟩, ?_⟩⟩
  · exact no_loops (by kernel_rfl)
  · exact no_cuts (by kernel_rfl)
  · rintro v0
    kernel_rfl
/- 145 loop.example/g01005/impl.ValidSimplex$1 -/
def impl_ValidSimplex_1 (v0 : Int) : Option Bool := (impl_isVertex v0).bind fun r_1 => some (!r_1)
def fe_impl_ValidSimplex_1 : FE := ⟨(.int .i64), 1, .bool, fun x => impl_ValidSimplex_1 x⟩
theorem ok_impl_ValidSimplex_1 : FnOK Tryz.prog 145 (fe_impl_ValidSimplex_1) := by
  refine closed_ok (tab := [(146, fe_impl_isVertex)]) (l := []) ti_ok ti_ht mix (List.forall_mem_cons.2 ⟨ok_impl_isVertex, (List.forall_mem_nil _)⟩) (List.forall_mem_nil _) ⟨⟨Tryz.f145, (codeOf Tryz.f145), [.tmp 2], (LOn Bool), by kernel_rfl, by kernel_rfl, by kernel_rfl, by kernel_rfl, rfl, by decide, ⟨by kernel_rfl, ?_, ?_⟩, ?_⟩⟩
  · exact no_loops (by kernel_rfl)
  · exact no_cuts (by kernel_rfl)
  · rintro v0
    kernel_rfl
/- 124 slices.IndexFunc[[]int64,int64] -/
def slices_IndexFunc_int64__impl_ValidSimplex_1_l0 (k : Nat) : Nat → (List Int) → Unit → Int → Int → (Option Int) → Option Int
  | 0, _, _, _, _, _ => none
  | n + 1, s0, f1, x7, x8, e_0 => (if (decide (x8 < x7)) = true then (if 0 ≤ x8 then (s0[x8.toNat]?).bind fun y_1 => (impl_ValidSimplex_1 y_1).bind fun r_2 => (if r_2 = true then some x8 else slices_IndexFunc_int64__impl_ValidSimplex_1_l0 k n s0 f1 x7 (w_i64 (x8 + 1)) e_0) else none) else e_0)
def slices_IndexFunc_int64__impl_ValidSimplex_1 (k : Nat) (s0 : List Int) (f1 : Unit) : Option Int := slices_IndexFunc_int64__impl_ValidSimplex_1_l0 k k s0 f1 (List.length s0 : Int) 0 (some (-1))
def slices_IndexFunc_int64__impl_ValidSimplex_1_l0_h : Head := ⟨[(0, (.val (.sl 2 (.int .i64)))), (1, (.val (.fn 145 .un))), (7, (.val (.int .i64))), (8, (.val (.int .i64)))], [], []⟩
def slices_IndexFunc_int64__impl_ValidSimplex_1_l0_x0 : Head := ⟨[], [], []⟩
def slices_IndexFunc_int64__impl_ValidSimplex_1_l0_F (k n : Nat) (x : slices_IndexFunc_int64__impl_ValidSimplex_1_l0_h.T) (kx : Nat → St → Option Int) : Option Int := slices_IndexFunc_int64__impl_ValidSimplex_1_l0 k n x.1.1 x.1.2.1 x.1.2.2.1 x.1.2.2.2.1 (kx 0 (slices_IndexFunc_int64__impl_ValidSimplex_1_l0_x0.fill ((), (), ())))
def slices_IndexFunc_int64__impl_ValidSimplex_1_O (k : Nat) : Oracles Int := ⟨fun n => bif Nat.beq n 2 then some (fun σ kx => slices_IndexFunc_int64__impl_ValidSimplex_1_l0_h.get σ fun x => slices_IndexFunc_int64__impl_ValidSimplex_1_l0_F k k x kx) else none, fun _ => none⟩
def fe_slices_IndexFunc_int64__impl_ValidSimplex_1 (k : Nat) : FE := ⟨(.pr (.sl 2 (.int .i64)) (.fn 145 .un)), 1, (.int .i64), fun x => slices_IndexFunc_int64__impl_ValidSimplex_1 k x.1 x.2⟩
theorem slices_IndexFunc_int64__impl_ValidSimplex_1_l0_ok (k : Nat) : LoopOK (mkEnv ti [(145, fe_impl_ValidSimplex_1)] (lk []) pins0 pinB0) (slices_IndexFunc_int64__impl_ValidSimplex_1_O k) (rdC (mkEnv ti [(145, fe_impl_ValidSimplex_1)] (lk []) pins0 pinB0) [.tmp 4] (.int .i64)) ((loopsOf (codeOf Tryz.f124)).getD 0 .skip) (fun σ kx => slices_IndexFunc_int64__impl_ValidSimplex_1_l0_h.get σ fun x => slices_IndexFunc_int64__impl_ValidSimplex_1_l0_F k k x kx) := by
  refine ⟨slices_IndexFunc_int64__impl_ValidSimplex_1_l0_h, [(0, slices_IndexFunc_int64__impl_ValidSimplex_1_l0_x0)], fun n x kx => slices_IndexFunc_int64__impl_ValidSimplex_1_l0_F k n x kx, k, by kernel_rfl, by kernel_rfl, fun x kx => by kernel_rfl, ?_, fun σ kx => rfl⟩
  rintro n ⟨⟨s0, f1, x7, x8, ⟨⟩⟩, ⟨⟩, ⟨⟩⟩ kx
  kernel_rfl
theorem ok_slices_IndexFunc_int64__impl_ValidSimplex_1 (k : Nat) : FnOK Tryz.prog 124 (fe_slices_IndexFunc_int64__impl_ValidSimplex_1 k) := by
  refine closed_ok (tab := [(145, fe_impl_ValidSimplex_1)]) (l := []) ti_ok ti_ht mix (List.forall_mem_cons.2 ⟨ok_impl_ValidSimplex_1, (List.forall_mem_nil _)⟩) (List.forall_mem_nil _) ⟨⟨Tryz.f124, (codeOf Tryz.f124), [.tmp 4], (slices_IndexFunc_int64__impl_ValidSimplex_1_O k), by kernel_rfl, by kernel_rfl, by kernel_rfl, by kernel_rfl, rfl, by decide, ⟨by kernel_rfl, ?_, ?_⟩, ?_⟩⟩
  · refine loops_of (n := 1) (by kernel_rfl) fun i hi => ?_
    match i, hi with
    | 0, _ => exact loop_of (by kernel_rfl) (slices_IndexFunc_int64__impl_ValidSimplex_1_l0_ok k)
    | n + 1, hi => omega
  · exact no_cuts (by kernel_rfl)
  · rintro ⟨s0, f1⟩
    kernel_rfl
/- 72 slices.ContainsFunc[[]int64,int64] -/
def slices_ContainsFunc_int64__impl_ValidSimplex_1 (k : Nat) (s0 : List Int) (f1 : Unit) : Option Bool := (slices_IndexFunc_int64__impl_ValidSimplex_1 k s0 f1).bind fun r_1 => some (decide (0 ≤ r_1))
def fe_slices_ContainsFunc_int64__impl_ValidSimplex_1 (k : Nat) : FE := ⟨(.pr (.sl 2 (.int .i64)) (.fn 145 .un)), 1, .bool, fun x => slices_ContainsFunc_int64__impl_ValidSimplex_1 k x.1 x.2⟩
theorem ok_slices_ContainsFunc_int64__impl_ValidSimplex_1 (k : Nat) : FnOK Tryz.prog 72 (fe_slices_ContainsFunc_int64__impl_ValidSimplex_1 k) := by
  refine closed_ok (tab := [(124, fe_slices_IndexFunc_int64__impl_ValidSimplex_1 k)]) (l := []) ti_ok ti_ht mix (List.forall_mem_cons.2 ⟨ok_slices_IndexFunc_int64__impl_ValidSimplex_1 k, (List.forall_mem_nil _)⟩) (List.forall_mem_nil _) ⟨⟨Tryz.f72, (codeOf Tryz.f72), [.tmp 4], (LOn Bool), by kernel_rfl, by kernel_rfl, by kernel_rfl, by kernel_rfl, rfl, by decide, ⟨by kernel_rfl, ?_, ?_⟩, ?_⟩⟩
  · exact no_loops (by kernel_rfl)
  · exact no_cuts (by kernel_rfl)
  · rintro ⟨s0, f1⟩
    kernel_rfl
/- 108 loop.example/g01005/impl.ValidSimplex -/
def impl_ValidSimplex (k : Nat) (s0 : List Int) : Option Bool := (if (decide (1 ≤ (List.length s0 : Int))) = true then (if (decide ((List.length s0 : Int) ≤ 4)) = true then (impl_isRising k s0).bind fun r_1 => (if r_1 = true then (slices_ContainsFunc_int64__impl_ValidSimplex_1 k s0 ()).bind fun r_2 => some (!r_2) else some false) else some false) else some false)
def fe_impl_ValidSimplex (k : Nat) : FE := ⟨(.sl 2 (.int .i64)), 1, .bool, fun x => impl_ValidSimplex k x⟩
theorem ok_impl_ValidSimplex (k : Nat) : FnOK Tryz.prog 108 (fe_impl_ValidSimplex k) := by
  refine closed_ok (tab := [(122, fe_impl_isRising k), (72, fe_slices_ContainsFunc_int64__impl_ValidSimplex_1 k)]) (l := []) ti_ok ti_ht mix (List.forall_mem_cons.2 ⟨ok_impl_isRising k, (List.forall_mem_cons.2 ⟨ok_slices_ContainsFunc_int64__impl_ValidSimplex_1 k, (List.forall_mem_nil _)⟩)⟩) (List.forall_mem_nil _) ⟨⟨Tryz.f108, (codeOf Tryz.f108), [.tmp 2], (LOn Bool), by kernel_rfl, by kernel_rfl, by kernel_rfl, by kernel_rfl, rfl, by decide, ⟨by kernel_rfl, ?_, ?_⟩, ?_⟩⟩
  · exact no_loops (by kernel_rfl)
  · exact no_cuts (by kernel_rfl)
  · rintro s0
    kernel_rfl
/- 156 cmp.isNaN[int] -/
def cmp_isNaN_int (x0 : Int) : Option Bool := some (!(decide (x0 = x0)))
def fe_cmp_isNaN_int : FE := ⟨(.int .i64), 1, .bool, fun x => cmp_isNaN_int x⟩
theorem ok_cmp_isNaN_int : FnOK Tryz.prog 156 (fe_cmp_isNaN_int) := by
  refine closed_ok (tab := []) (l := []) ti_ok ti_ht mix (List.forall_mem_nil _) (List.forall_mem_nil _) ⟨⟨Tryz.f156, (codeOf Tryz.f156), [.tmp 2], (LOn Bool), by kernel_rfl, by kernel_rfl, by kernel_rfl, by kernel_rfl, rfl, by decide, ⟨by kernel_rfl, ?_, ?_⟩, ?_⟩⟩
  · exact no_loops (by kernel_rfl)
  · exact no_cuts (by kernel_rfl)
  · rintro x0
    kernel_rfl
/- 147 cmp.Compare[int] -/
def cmp_Compare_int (x0 : Int) (y1 : Int) : Option Int := (cmp_isNaN_int x0).bind fun r_1 => (cmp_isNaN_int y1).bind fun r_2 => (if r_1 = true then (if r_2 = true then some 0 else some (-1)) else (if r_2 = true then some 1 else (if (decide (x0 < y1)) = true then some (-1) else (if (decide (y1 < x0)) = true then some 1 else some 0))))
def fe_cmp_Compare_int : FE := ⟨(.pr (.int .i64) (.int .i64)), 1, (.int .i64), fun x => cmp_Compare_int x.1 x.2⟩
theorem ok_cmp_Compare_int : FnOK Tryz.prog 147 (fe_cmp_Compare_int) := by
  refine closed_ok (tab := [(156, fe_cmp_isNaN_int)]) (l := []) ti_ok ti_ht mix (List.forall_mem_cons.2 ⟨ok_cmp_isNaN_int, (List.forall_mem_nil _)⟩) (List.forall_mem_nil _) ⟨⟨Tryz.f147, (codeOf Tryz.f147), [.tmp 4], (LOn Int), by kernel_rfl, by kernel_rfl, by kernel_rfl, by kernel_rfl, rfl, by decide, ⟨by kernel_rfl, ?_, ?_⟩, ?_⟩⟩
  · exact no_loops (by kernel_rfl)
  · exact no_cuts (by kernel_rfl)
  · rintro ⟨x0, y1⟩
    kernel_rfl
/- 151 cmp.isNaN[int64] -/
def cmp_isNaN_int64 (x0 : Int) : Option Bool := some (!(decide (x0 = x0)))
def fe_cmp_isNaN_int64 : FE := ⟨(.int .i64), 1, .bool, fun x => cmp_isNaN_int64 x⟩
theorem ok_cmp_isNaN_int64 : FnOK Tryz.prog 151 (fe_cmp_isNaN_int64) := by
  refine closed_ok (tab := []) (l := []) ti_ok ti_ht mix (List.forall_mem_nil _) (List.forall_mem_nil _) ⟨⟨Tryz.f151, (codeOf Tryz.f151), [.tmp 2], (LOn Bool), by kernel_rfl, by kernel_rfl, by kernel_rfl, by kernel_rfl, rfl, by decide, ⟨by kernel_rfl, ?_, ?_⟩, ?_⟩⟩
  · exact no_loops (by kernel_rfl)
  · exact no_cuts (by kernel_rfl)
  · rintro x0
    kernel_rfl
/- 118 cmp.Compare[int64] -/
def cmp_Compare_int64 (x0 : Int) (y1 : Int) : Option Int := (cmp_isNaN_int64 x0).bind fun r_1 => (cmp_isNaN_int64 y1).bind fun r_2 => (if r_1 = true then (if r_2 = true then some 0 else some (-1)) else (if r_2 = true then some 1 else (if (decide (x0 < y1)) = true then some (-1) else (if (decide (y1 < x0)) = true then some 1 else some 0))))
def fe_cmp_Compare_int64 : FE := ⟨(.pr (.int .i64) (.int .i64)), 1, (.int .i64), fun x => cmp_Compare_int64 x.1 x.2⟩
theorem ok_cmp_Compare_int64 : FnOK Tryz.prog 118 (fe_cmp_Compare_int64) := by
  refine closed_ok (tab := [(151, fe_cmp_isNaN_int64)]) (l := []) ti_ok ti_ht mix (List.forall_mem_cons.2 ⟨ok_cmp_isNaN_int64, (List.forall_mem_nil _)⟩) (List.forall_mem_nil _) ⟨⟨Tryz.f118, (codeOf Tryz.f118), [.tmp 4], (LOn Int), by kernel_rfl, by kernel_rfl, by kernel_rfl, by kernel_rfl, rfl, by decide, ⟨by kernel_rfl, ?_, ?_⟩, ?_⟩⟩
  · exact no_loops (by kernel_rfl)
  · exact no_cuts (by kernel_rfl)
  · rintro ⟨x0, y1⟩
    kernel_rfl
/- 123 slices.Compare[[]int64,int64] -/
def slices_Compare_int64_l0 (k : Nat) : Nat → (List Int) → (List Int) → (List Int) → Int → Int → ((List Int) → (List Int) → Option Int) → Option Int
  | 0, _, _, _, _, _, _ => none
  | n + 1, s10, s21, x9, x10, x11, e_0 => (if (decide (x11 < x10)) = true then (if 0 ≤ x11 then (x9[x11.toNat]?).bind fun y_1 => (if (decide ((List.length s21 : Int) ≤ x11)) = true then some 1 else (if 0 ≤ x11 then (s21[x11.toNat]?).bind fun y_2 => (cmp_Compare_int64 y_1 y_2).bind fun r_3 => (if (!(decide (r_3 = 0))) = true then some r_3 else slices_Compare_int64_l0 k n s10 s21 x9 x10 (w_i64 (x11 + 1)) e_0) else none)) else none) else e_0 s10 s21)
def slices_Compare_int64 (k : Nat) (s10 : List Int) (s21 : List Int) : Option Int := slices_Compare_int64_l0 k k s10 s21 s10 (List.length s10 : Int) 0 (fun s_4 s_5 => (if (decide ((List.length s_4 : Int) < (List.length s_5 : Int))) = true then some (-1) else some 0))
def slices_Compare_int64_l0_h : Head := ⟨[(0, (.val (.sl 2 (.int .i64)))), (1, (.val (.sl 2 (.int .i64)))), (9, (.val (.sl 2 (.int .i64)))), (10, (.val (.int .i64))), (11, (.val (.int .i64)))], [], []⟩
def slices_Compare_int64_l0_x0 : Head := ⟨[(0, (.val (.sl 2 (.int .i64)))), (1, (.val (.sl 2 (.int .i64))))], [], []⟩
def slices_Compare_int64_l0_F (k n : Nat) (x : slices_Compare_int64_l0_h.T) (kx : Nat → St → Option Int) : Option Int := slices_Compare_int64_l0 k n x.1.1 x.1.2.1 x.1.2.2.1 x.1.2.2.2.1 x.1.2.2.2.2.1 (fun (s10 : List Int) (s21 : List Int) => kx 0 (slices_Compare_int64_l0_x0.fill ((s10, s21, ()), (), ())))
def slices_Compare_int64_O (k : Nat) : Oracles Int := ⟨fun n => bif Nat.beq n 2 then some (fun σ kx => slices_Compare_int64_l0_h.get σ fun x => slices_Compare_int64_l0_F k k x kx) else none, fun _ => none⟩
def fe_slices_Compare_int64 (k : Nat) : FE := ⟨(.pr (.sl 2 (.int .i64)) (.sl 2 (.int .i64))), 1, (.int .i64), fun x => slices_Compare_int64 k x.1 x.2⟩
theorem slices_Compare_int64_l0_ok (k : Nat) : LoopOK (mkEnv ti [(118, fe_cmp_Compare_int64)] (lk []) pins0 pinB0) (slices_Compare_int64_O k) (rdC (mkEnv ti [(118, fe_cmp_Compare_int64)] (lk []) pins0 pinB0) [.tmp 4] (.int .i64)) ((loopsOf (codeOf Tryz.f123)).getD 0 .skip) (fun σ kx => slices_Compare_int64_l0_h.get σ fun x => slices_Compare_int64_l0_F k k x kx) := by
  refine ⟨slices_Compare_int64_l0_h, [(0, slices_Compare_int64_l0_x0)], fun n x kx => slices_Compare_int64_l0_F k n x kx, k, by kernel_rfl, by kernel_rfl, fun x kx => by kernel_rfl, ?_, fun σ kx => rfl⟩
  rintro n ⟨⟨s10, s21, x9, x10, x11, ⟨⟩⟩, ⟨⟩, ⟨⟩⟩ kx
  kernel_rfl
theorem ok_slices_Compare_int64 (k : Nat) : FnOK Tryz.prog 123 (fe_slices_Compare_int64 k) := by
  refine closed_ok (tab := [(118, fe_cmp_Compare_int64)]) (l := []) ti_ok ti_ht mix (List.forall_mem_cons.2 ⟨ok_cmp_Compare_int64, (List.forall_mem_nil _)⟩) (List.forall_mem_nil _) ⟨⟨Tryz.f123, (codeOf Tryz.f123), [.tmp 4], (slices_Compare_int64_O k), by kernel_rfl, by kernel_rfl, by kernel_rfl, by kernel_rfl, rfl, by decide, ⟨by kernel_rfl, ?_, ?_⟩, ?_⟩⟩
  · refine loops_of (n := 1) (by kernel_rfl) fun i hi => ?_
    match i, hi with
    | 0, _ => exact loop_of (by kernel_rfl) (slices_Compare_int64_l0_ok k)
    | n + 1, hi => omega
  · exact no_cuts (by kernel_rfl)
  · rintro ⟨s10, s21⟩
    kernel_rfl
/- 117 cmp.Or[int] -/
def cmp_Or_int_l0 (k : Nat) : Nat → Int → (List Int) → Int → Int → (Int → Option Int) → Option Int
  | 0, _, _, _, _, _ => none
  | n + 1, zero3, x6, x7, x8, e_0 => (if (decide (x8 < x7)) = true then (if 0 ≤ x8 then (x6[x8.toNat]?).bind fun y_1 => (if (!(decide (y_1 = zero3))) = true then some y_1 else cmp_Or_int_l0 k n zero3 x6 x7 (w_i64 (x8 + 1)) e_0) else none) else e_0 zero3)
def cmp_Or_int (k : Nat) (vals0 : List Int) : Option Int := cmp_Or_int_l0 k k 0 vals0 (List.length vals0 : Int) 0 (fun zero_2 => some zero_2)
def cmp_Or_int_l0_h : Head := ⟨[(3, (.val (.int .i64))), (6, (.val (.sl 3 (.int .i64)))), (7, (.val (.int .i64))), (8, (.val (.int .i64)))], [], []⟩
def cmp_Or_int_l0_x0 : Head := ⟨[(3, (.val (.int .i64)))], [], []⟩
def cmp_Or_int_l0_F (k n : Nat) (x : cmp_Or_int_l0_h.T) (kx : Nat → St → Option Int) : Option Int := cmp_Or_int_l0 k n x.1.1 x.1.2.1 x.1.2.2.1 x.1.2.2.2.1 (fun (zero3 : Int) => kx 0 (cmp_Or_int_l0_x0.fill ((zero3, ()), (), ())))
def cmp_Or_int_O (k : Nat) : Oracles Int := ⟨fun n => bif Nat.beq n 3 then some (fun σ kx => cmp_Or_int_l0_h.get σ fun x => cmp_Or_int_l0_F k k x kx) else none, fun _ => none⟩
def fe_cmp_Or_int (k : Nat) : FE := ⟨(.sl 3 (.int .i64)), 1, (.int .i64), fun x => cmp_Or_int k x⟩
theorem cmp_Or_int_l0_ok (k : Nat) : LoopOK (mkEnv ti [] (lk []) pins0 pinB0) (cmp_Or_int_O k) (rdC (mkEnv ti [] (lk []) pins0 pinB0) [.tmp 2] (.int .i64)) ((loopsOf (codeOf Tryz.f117)).getD 0 .skip) (fun σ kx => cmp_Or_int_l0_h.get σ fun x => cmp_Or_int_l0_F k k x kx) := by
  refine ⟨cmp_Or_int_l0_h, [(0, cmp_Or_int_l0_x0)], fun n x kx => cmp_Or_int_l0_F k n x kx, k, by kernel_rfl, by kernel_rfl, fun x kx => by kernel_rfl, ?_, fun σ kx => rfl⟩
  rintro n ⟨⟨zero3, x6, x7, x8, ⟨⟩⟩, ⟨⟩, ⟨⟩⟩ kx
  kernel_rfl
theorem ok_cmp_Or_int (k : Nat) : FnOK Tryz.prog 117 (fe_cmp_Or_int k) := by
  refine closed_ok (tab := []) (l := []) ti_ok ti_ht mix (List.forall_mem_nil _) (List.forall_mem_nil _) ⟨⟨Tryz.f117, (codeOf Tryz.f117), [.tmp 2], (cmp_Or_int_O k), by kernel_rfl, by kernel_rfl, by kernel_rfl, by kernel_rfl, rfl, by decide, ⟨by kernel_rfl, ?_, ?_⟩, ?_⟩⟩
  · refine loops_of (n := 1) (by kernel_rfl) fun i hi => ?_
    match i, hi with
    | 0, _ => exact loop_of (by kernel_rfl) (cmp_Or_int_l0_ok k)
    | n + 1, hi => omega
  · exact no_cuts (by kernel_rfl)
  · rintro vals0
    kernel_rfl
/- 109 loop.example/g01005/impl.compareSimplices -/
def impl_compareSimplices (k : Nat) (a0 : List Int) (b1 : List Int) : Option Int := (cmp_Compare_int (List.length a0 : Int) (List.length b1 : Int)).bind fun r_1 => (slices_Compare_int64 k a0 b1).bind fun r_2 => (cmp_Or_int k [r_1, r_2]).bind fun r_3 => some r_3
def fe_impl_compareSimplices (k : Nat) : FE := ⟨(.pr (.sl 2 (.int .i64)) (.sl 2 (.int .i64))), 1, (.int .i64), fun x => impl_compareSimplices k x.1 x.2⟩
theorem ok_impl_compareSimplices (k : Nat) : FnOK Tryz.prog 109 (fe_impl_compareSimplices k) := by
  refine closed_ok (tab := [(147, fe_cmp_Compare_int), (123, fe_slices_Compare_int64 k), (117, fe_cmp_Or_int k)]) (l := []) ti_ok ti_ht mix (List.forall_mem_cons.2 ⟨ok_cmp_Compare_int, (List.forall_mem_cons.2 ⟨ok_slices_Compare_int64 k, (List.forall_mem_cons.2 ⟨ok_cmp_Or_int k, (List.forall_mem_nil _)⟩)⟩)⟩) (List.forall_mem_nil _) ⟨⟨Tryz.f109, (codeOf Tryz.f109), [.tmp 4], (LOn Int), by kernel_rfl, by kernel_rfl, by kernel_rfl, by kernel_rfl, rfl, by decide, ⟨by kernel_rfl, ?_, ?_⟩, ?_⟩⟩
  · exact no_loops (by kernel_rfl)
  · exact no_cuts (by kernel_rfl)
  · rintro ⟨a0, b1⟩
    kernel_rfl
/- 157 slices.Grow[[]int64,int64] (off the shelf) -/
def slices_Grow_int64_s (n1 : Int) (q_1 : List Int) : Option ((Unit × Unit) × (List Int × Unit) × Unit) := if 0 ≤ n1 ∧ (List.length q_1 + (n1).toNat) * 8 ≤ LIM then some (((), ()), (q_1, ()), ()) else none
def oc_slices_Grow_int64_s : OC := oc_grow 2 (.int .i64) 8
theorem ok_slices_Grow_int64_s : OpenOK Tryz.prog ti 157 oc_slices_Grow_int64_s :=
  ok_grow_at (ρ := (⟨fun n => bif Nat.beq n 4 then 157 else n, fun n => bif Nat.beq n 22 then 25 else bif Nat.beq n 25 then 2 else n, fun n => n⟩ : Go.Shelf.Ren)) ti_ok (e := 2) (t := (.int .i64)) (bytes := 8) { mixed := mix, f4 := ⟨Tryz.f157.name, by kernel_rfl, (Tryz.func157).trans (congrArg some (by kernel_rfl))⟩, t0 := Tryz.underlying0, a0 := Tryz.isAgg0, z0 := Tryz.sizeOf0, v0 := Tryz.zeroValue0, t3 := Tryz.underlying3, a3 := Tryz.isAgg3, z3 := Tryz.sizeOf3, v3 := Tryz.zeroValue3, t4 := Tryz.underlying4, a4 := Tryz.isAgg4, z4 := Tryz.sizeOf4, v4 := Tryz.zeroValue4, t9 := Tryz.underlying9, a9 := Tryz.isAgg9, z9 := Tryz.sizeOf9, v9 := Tryz.zeroValue9, t20 := Tryz.underlying20, a20 := Tryz.isAgg20, z20 := Tryz.sizeOf20, v20 := Tryz.zeroValue20, t22 := Tryz.underlying25, a22 := Tryz.isAgg25, z22 := Tryz.sizeOf25, v22 := Tryz.zeroValue25 } rfl (i := (ti[2]?).getD ⟨.oth, .un, 0⟩) (by kernel_rfl) (by kernel_rfl) (by kernel_rfl) (by kernel_rfl) (by kernel_rfl) (by kernel_rfl)
/- 149 slices.Concat[[]int64,int64] -/
def slices_Concat_int64_l0 (k : Nat) : Nat → (List (List Int)) → Int → (List (List Int)) → Int → Int → ((List (List Int)) → Int → Option (List Int)) → Option (List Int)
  | 0, _, _, _, _, _, _ => none
  | n + 1, slices0, size3, x9, x10, x11, e_0 => (if (decide (x11 < x10)) = true then (if 0 ≤ x11 then (x9[x11.toNat]?).bind fun y_1 => (if (decide ((w_i64 (size3 + (List.length y_1 : Int))) < 0)) = true then none else slices_Concat_int64_l0 k n slices0 (w_i64 (size3 + (List.length y_1 : Int))) x9 x10 (w_i64 (x11 + 1)) e_0) else none) else e_0 slices0 size3)
def slices_Concat_int64_l1 (k : Nat) : Nat → (List (List Int)) → Int → Int → (List Int) → ((List Int) → Option (List Int)) → Option (List Int)
  | 0, _, _, _, _, _ => none
  | n + 1, x25, x26, x27, q_5, e_2 => (if (decide (x27 < x26)) = true then (if 0 ≤ x27 then (x25[x27.toNat]?).bind fun y_6 => (if (q_5.length + y_6.length) * 8 ≤ LIM then slices_Concat_int64_l1 k n x25 x26 (w_i64 (x27 + 1)) (q_5 ++ y_6) e_2 else none) else none) else e_2 q_5)
def slices_Concat_int64 (k : Nat) (slices0 : List (List Int)) : Option (List Int) := slices_Concat_int64_l0 k k slices0 0 slices0 (List.length slices0 : Int) 0 (fun slices_2 size_3 => (slices_Grow_int64_s size_3 []).bind fun y_4 => slices_Concat_int64_l1 k k slices_2 (List.length slices_2 : Int) 0 y_4.2.1.1 (fun q_7 => some q_7))
def slices_Concat_int64_l0_h : Head := ⟨[(0, (.val (.sl 25 (.sl 2 (.int .i64))))), (3, (.val (.int .i64))), (9, (.val (.sl 25 (.sl 2 (.int .i64))))), (10, (.val (.int .i64))), (11, (.val (.int .i64)))], [], []⟩
def slices_Concat_int64_l0_x0 : Head := ⟨[(0, (.val (.sl 25 (.sl 2 (.int .i64))))), (3, (.val (.int .i64)))], [], []⟩
def slices_Concat_int64_l0_F (k n : Nat) (x : slices_Concat_int64_l0_h.T) (kx : Nat → St → Option (List Int)) : Option (List Int) := slices_Concat_int64_l0 k n x.1.1 x.1.2.1 x.1.2.2.1 x.1.2.2.2.1 x.1.2.2.2.2.1 (fun (slices0 : List (List Int)) (size3 : Int) => kx 0 (slices_Concat_int64_l0_x0.fill ((slices0, size3, ()), (), ())))
def slices_Concat_int64_l1_h : Head := ⟨[(6, (.ref 64000000 [])), (25, (.val (.sl 25 (.sl 2 (.int .i64))))), (26, (.val (.int .i64))), (27, (.val (.int .i64)))], [(64000000, 2, (.int .i64), false)], []⟩
def slices_Concat_int64_l1_x2 : Head := ⟨[(6, (.ref 64000000 []))], [(64000000, 2, (.int .i64), false)], []⟩
def slices_Concat_int64_l1_F (k n : Nat) (x : slices_Concat_int64_l1_h.T) (kx : Nat → St → Option (List Int)) : Option (List Int) := slices_Concat_int64_l1 k n x.1.2.1 x.1.2.2.1 x.1.2.2.2.1 x.2.1.1 (fun (q_7 : List Int) => kx 2 (slices_Concat_int64_l1_x2.fill (((), ()), (q_7, ()), ())))
def slices_Concat_int64_O (k : Nat) : Oracles (List Int) := ⟨fun n => bif Nat.beq n 3 then some (fun σ kx => slices_Concat_int64_l0_h.get σ fun x => slices_Concat_int64_l0_F k k x kx) else bif Nat.beq n 11 then some (fun σ kx => slices_Concat_int64_l1_h.get σ fun x => slices_Concat_int64_l1_F k k x kx) else none, fun _ => none⟩
def fe_slices_Concat_int64 (k : Nat) : FE := ⟨(.sl 25 (.sl 2 (.int .i64))), 1, (.sl 2 (.int .i64)), fun x => slices_Concat_int64 k x⟩
theorem slices_Concat_int64_l0_ok (k : Nat) : LoopOK (mkEnv ti [] (lk [(24, 157, oc_slices_Grow_int64_s)]) pins0 pinB0) (slices_Concat_int64_O k) (rdC (mkEnv ti [] (lk [(24, 157, oc_slices_Grow_int64_s)]) pins0 pinB0) [.tmp 2] (.sl 2 (.int .i64))) ((loopsOf (codeOf Tryz.f149)).getD 0 .skip) (fun σ kx => slices_Concat_int64_l0_h.get σ fun x => slices_Concat_int64_l0_F k k x kx) := by
  refine ⟨slices_Concat_int64_l0_h, [(0, slices_Concat_int64_l0_x0)], fun n x kx => slices_Concat_int64_l0_F k n x kx, k, by kernel_rfl, by kernel_rfl, fun x kx => by kernel_rfl, ?_, fun σ kx => rfl⟩
  rintro n ⟨⟨slices0, size3, x9, x10, x11, ⟨⟩⟩, ⟨⟩, ⟨⟩⟩ kx
  kernel_rfl
theorem slices_Concat_int64_l1_ok (k : Nat) : LoopOK (mkEnv ti [] (lk [(24, 157, oc_slices_Grow_int64_s)]) pins0 pinB0) (slices_Concat_int64_O k) (rdC (mkEnv ti [] (lk [(24, 157, oc_slices_Grow_int64_s)]) pins0 pinB0) [.tmp 2] (.sl 2 (.int .i64))) ((loopsOf (codeOf Tryz.f149)).getD 1 .skip) (fun σ kx => slices_Concat_int64_l1_h.get σ fun x => slices_Concat_int64_l1_F k k x kx) := by
  refine ⟨slices_Concat_int64_l1_h, [(2, slices_Concat_int64_l1_x2)], fun n x kx => slices_Concat_int64_l1_F k n x kx, k, by kernel_rfl, by kernel_rfl, fun x kx => by kernel_rfl, ?_, fun σ kx => rfl⟩
  rintro n ⟨⟨⟨⟩, x25, x26, x27, ⟨⟩⟩, ⟨q_5, ⟨⟩⟩, ⟨⟩⟩ kx
  kernel_rfl
theorem ok_slices_Concat_int64 (k : Nat) : FnOK Tryz.prog 149 (fe_slices_Concat_int64 k) := by
  refine closed_ok (tab := []) (l := [(24, 157, oc_slices_Grow_int64_s)]) ti_ok ti_ht mix (List.forall_mem_nil _) (List.forall_mem_cons.2 ⟨ok_slices_Grow_int64_s, (List.forall_mem_nil _)⟩) ⟨⟨Tryz.f149, (codeOf Tryz.f149), [.tmp 2], (slices_Concat_int64_O k), by kernel_rfl, by kernel_rfl, by kernel_rfl, by kernel_rfl, rfl, by decide, ⟨by kernel_rfl, ?_, ?_⟩, ?_⟩⟩
  · refine loops_of (n := 2) (by kernel_rfl) fun i hi => ?_
    match i, hi with
    | 0, _ => exact loop_of (by kernel_rfl) (slices_Concat_int64_l0_ok k)
    | 1, _ => exact loop_of (by kernel_rfl) (slices_Concat_int64_l1_ok k)
    | n + 2, hi => omega
  · exact no_cuts (by kernel_rfl)
  · rintro slices0
    kernel_rfl
end
end Go.Proofs.YtmmkijdfiaaobaaGreat.Ev
