/- Functions of the program, as plain ones. No conditions. -/
import Derived.Test.YtankbidchgcapaaGreatG1
import Derived.KernelRfl
set_option linter.unusedVariables false
set_option maxRecDepth 100000
namespace Go.Proofs.YtankbidchgcapaaGreat.Ev
open Go.RowKit
noncomputable section
/- 6 loop.example/g01005/laws.toWork -/
def laws_toWork (k : Nat) (a0 : (List (List Int) × Int × List Int × List (Int × Int × Int × List Int)) × Int × List Int × List Int × (Int × Int × Int × List (Int × Int × Int)) × List Int × List Int × (Int × Int × List (Int × Int × Int)) × List Int) : Option ((List (List Int) × Int × List Int × List (Int × Int × Int × List Int)) × Int × List Int × List Int × (Int × Int × Int × List (Int × Int × Int)) × List Int × List Int × (Int × Int × List (Int × Int × Int)) × List Int) := (laws_toSheaf k a0.1).bind fun r_1 => (laws_toInt64S k a0.2.2.1).bind fun r_2 => (laws_toInt64S k a0.2.2.2.1).bind fun r_3 => (laws_toNetwork k a0.2.2.2.2.1).bind fun r_4 => (laws_toInt64S k a0.2.2.2.2.2.1).bind fun r_5 => (laws_toInt64S k a0.2.2.2.2.2.2.1).bind fun r_6 => (laws_toPhases k a0.2.2.2.2.2.2.2.1).bind fun r_7 => (laws_toInt64S k a0.2.2.2.2.2.2.2.2).bind fun r_8 => some ((r_1.1, (r_1.2.1, (r_1.2.2.1, r_1.2.2.2))), (a0.2.1, (r_2, (r_3, ((r_4.1, (r_4.2.1, (r_4.2.2.1, r_4.2.2.2))), (r_5, (r_6, ((r_7.1, (r_7.2.1, r_7.2.2)), r_8))))))))
def fe_laws_toWork (k : Nat) : FE := ⟨(.st (.pr (.st (.pr (.st (.sl 25 (.sl 2 (.int .i64)))) (.pr (.int .i64) (.pr (.sl 2 (.int .i64)) (.sl 118 (.st (.pr (.int .i64) (.pr (.int .i64) (.pr (.int .i64) (.sl 2 (.int .i64))))))))))) (.pr (.int .i64) (.pr (.sl 2 (.int .i64)) (.pr (.sl 2 (.int .i64)) (.pr (.st (.pr (.int .i64) (.pr (.int .i64) (.pr (.int .i64) (.sl 129 (.st (.pr (.int .i64) (.pr (.int .i64) (.int .i64))))))))) (.pr (.sl 2 (.int .i64)) (.pr (.sl 2 (.int .i64)) (.pr (.st (.pr (.int .i64) (.pr (.int .i64) (.sl 131 (.st (.pr (.int .i64) (.pr (.int .i64) (.int .i64)))))))) (.sl 2 (.int .i64))))))))))), 1, (.st (.pr (.st (.pr (.st (.sl 25 (.sl 2 (.int .i64)))) (.pr (.int .i64) (.pr (.sl 2 (.int .i64)) (.sl 100 (.st (.pr (.int .i64) (.pr (.int .i64) (.pr (.int .i64) (.sl 2 (.int .i64))))))))))) (.pr (.int .i64) (.pr (.sl 2 (.int .i64)) (.pr (.sl 2 (.int .i64)) (.pr (.st (.pr (.int .i64) (.pr (.int .i64) (.pr (.int .i64) (.sl 103 (.st (.pr (.int .i64) (.pr (.int .i64) (.int .i64))))))))) (.pr (.sl 2 (.int .i64)) (.pr (.sl 2 (.int .i64)) (.pr (.st (.pr (.int .i64) (.pr (.int .i64) (.sl 108 (.st (.pr (.int .i64) (.pr (.int .i64) (.int .i64)))))))) (.sl 2 (.int .i64))))))))))), fun x => laws_toWork k x⟩
theorem ok_laws_toWork (k : Nat) : FnOK Tryz.prog 6 (fe_laws_toWork k) := by
  refine closed_ok (tab := [(14, fe_laws_toSheaf k), (15, fe_laws_toInt64S k), (16, fe_laws_toNetwork k), (17, fe_laws_toPhases k)]) (l := []) ti_ok ti_ht mix (List.forall_mem_cons.2 ⟨ok_laws_toSheaf k, (List.forall_mem_cons.2 ⟨ok_laws_toInt64S k, (List.forall_mem_cons.2 ⟨ok_laws_toNetwork k, (List.forall_mem_cons.2 ⟨ok_laws_toPhases k, (List.forall_mem_nil _)⟩)⟩)⟩)⟩) (List.forall_mem_nil _) ⟨⟨Tryz.f6, (codeOf Tryz.f6), [.cell 2 50], (LOn ((List (List Int) × Int × List Int × List (Int × Int × Int × List Int)) × Int × List Int × List Int × (Int × Int × Int × List (Int × Int × Int)) × List Int × List Int × (Int × Int × List (Int × Int × Int)) × List Int)), by kernel_rfl, by kernel_rfl, by kernel_rfl, by kernel_rfl, rfl, by decide, ⟨by kernel_rfl, ?_, ?_⟩, ?_⟩⟩
  · exact no_loops (by kernel_rfl)
  · exact no_cuts (by kernel_rfl)
  · rintro a0
    kernel_rfl
/- 68 loop.example/g01005/spec.l00In -/
def spec_l00In (n0 : Int) (low1 : Int) (high2 : Int) : Option Bool := (if (decide (low1 ≤ n0)) = true then some (decide (n0 ≤ high2)) else some false)
def fe_spec_l00In : FE := ⟨(.pr (.int .i64) (.pr (.int .i64) (.int .i64))), 1, .bool, fun x => spec_l00In x.1 x.2.1 x.2.2⟩
theorem ok_spec_l00In : FnOK Tryz.prog 68 (fe_spec_l00In) := by
  refine closed_ok (tab := []) (l := []) ti_ok ti_ht mix (List.forall_mem_nil _) (List.forall_mem_nil _) ⟨⟨Tryz.f68, (codeOf Tryz.f68), [.tmp 6], (LOn Bool), by kernel_rfl, by kernel_rfl, by kernel_rfl, by kernel_rfl, rfl, by decide, ⟨by kernel_rfl, ?_, ?_⟩, ?_⟩⟩
  · exact no_loops (by kernel_rfl)
  · exact no_cuts (by kernel_rfl)
  · rintro ⟨n0, low1, high2⟩
    kernel_rfl
/- 108 loop.example/g01005/spec.l00Rises -/
def spec_l00Rises_l0 (k : Nat) : Nat → (List Int) → Int → Int → Int → (Option Bool) → Option Bool
  | 0, _, _, _, _, _ => none
  | n + 1, list0, low1, high2, i7, e_0 => (if (decide (i7 < (List.length list0 : Int))) = true then (if 0 ≤ i7 then (list0[i7.toNat]?).bind fun y_1 => (spec_l00In y_1 low1 high2).bind fun r_2 => (if (!r_2) = true then some false else (if (decide (0 < i7)) = true then (if 0 ≤ (w_i64 (i7 - 1)) then (list0[(w_i64 (i7 - 1)).toNat]?).bind fun y_3 => (if 0 ≤ i7 then (list0[i7.toNat]?).bind fun y_4 => (if (decide (y_4 ≤ y_3)) = true then some false else spec_l00Rises_l0 k n list0 low1 high2 (w_i64 (i7 + 1)) e_0) else none) else none) else spec_l00Rises_l0 k n list0 low1 high2 (w_i64 (i7 + 1)) e_0)) else none) else e_0)
def spec_l00Rises (k : Nat) (list0 : List Int) (low1 : Int) (high2 : Int) : Option Bool := spec_l00Rises_l0 k k list0 low1 high2 0 (some true)
def spec_l00Rises_l0_h : Head := ⟨[(0, (.val (.sl 2 (.int .i64)))), (1, (.val (.int .i64))), (2, (.val (.int .i64))), (7, (.val (.int .i64)))], [], []⟩
def spec_l00Rises_l0_x0 : Head := ⟨[], [], []⟩
def spec_l00Rises_l0_F (k n : Nat) (x : spec_l00Rises_l0_h.T) (kx : Nat → St → Option Bool) : Option Bool := spec_l00Rises_l0 k n x.1.1 x.1.2.1 x.1.2.2.1 x.1.2.2.2.1 (kx 0 (spec_l00Rises_l0_x0.fill ((), (), ())))
def spec_l00Rises_O (k : Nat) : Oracles Bool := ⟨fun n => bif Nat.beq n 2 then some (fun σ kx => spec_l00Rises_l0_h.get σ fun x => spec_l00Rises_l0_F k k x kx) else none, fun _ => none⟩
def fe_spec_l00Rises (k : Nat) : FE := ⟨(.pr (.sl 2 (.int .i64)) (.pr (.int .i64) (.int .i64))), 1, .bool, fun x => spec_l00Rises k x.1 x.2.1 x.2.2⟩
theorem spec_l00Rises_l0_ok (k : Nat) : LoopOK (mkEnv ti [(68, fe_spec_l00In)] (lk []) pins0 pinB0) (spec_l00Rises_O k) (rdC (mkEnv ti [(68, fe_spec_l00In)] (lk []) pins0 pinB0) [.tmp 6] .bool) ((loopsOf (codeOf Tryz.f108)).getD 0 .skip) (fun σ kx => spec_l00Rises_l0_h.get σ fun x => spec_l00Rises_l0_F k k x kx) := by
  refine ⟨spec_l00Rises_l0_h, [(0, spec_l00Rises_l0_x0)], fun n x kx => spec_l00Rises_l0_F k n x kx, k, by kernel_rfl, by kernel_rfl, fun x kx => by kernel_rfl, ?_, fun σ kx => rfl⟩
  rintro n ⟨⟨list0, low1, high2, i7, ⟨⟩⟩, ⟨⟩, ⟨⟩⟩ kx
  kernel_rfl
theorem ok_spec_l00Rises (k : Nat) : FnOK Tryz.prog 108 (fe_spec_l00Rises k) := by
  refine closed_ok (tab := [(68, fe_spec_l00In)]) (l := []) ti_ok ti_ht mix (List.forall_mem_cons.2 ⟨ok_spec_l00In, (List.forall_mem_nil _)⟩) (List.forall_mem_nil _) ⟨⟨Tryz.f108, (codeOf Tryz.f108), [.tmp 6], (spec_l00Rises_O k), by kernel_rfl, by kernel_rfl, by kernel_rfl, by kernel_rfl, rfl, by decide, ⟨by kernel_rfl, ?_, ?_⟩, ?_⟩⟩
  · refine loops_of (n := 1) (by kernel_rfl) fun i hi => ?_
    match i, hi with
    | 0, _ => exact loop_of (by kernel_rfl) (spec_l00Rises_l0_ok k)
    | n + 1, hi => omega
  · exact no_cuts (by kernel_rfl)
  · rintro ⟨list0, low1, high2⟩
    kernel_rfl
/- 91 loop.example/g01005/spec.l05Simplex -/
def spec_l05Simplex (k : Nat) (s0 : List Int) : Option Bool := (spec_l00In (List.length s0 : Int) 1 4).bind fun r_1 => (if r_1 = true then (spec_l00Rises k s0 0 9).bind fun r_2 => some r_2 else some false)
def fe_spec_l05Simplex (k : Nat) : FE := ⟨(.sl 2 (.int .i64)), 1, .bool, fun x => spec_l05Simplex k x⟩
theorem ok_spec_l05Simplex (k : Nat) : FnOK Tryz.prog 91 (fe_spec_l05Simplex k) := by
  refine closed_ok (tab := [(68, fe_spec_l00In), (108, fe_spec_l00Rises k)]) (l := []) ti_ok ti_ht mix (List.forall_mem_cons.2 ⟨ok_spec_l00In, (List.forall_mem_cons.2 ⟨ok_spec_l00Rises k, (List.forall_mem_nil _)⟩)⟩) (List.forall_mem_nil _) ⟨⟨Tryz.f91, (codeOf Tryz.f91), [.tmp 2], (LOn Bool), by kernel_rfl, by kernel_rfl, by kernel_rfl, by kernel_rfl, rfl, by decide, ⟨by kernel_rfl, ?_, ?_⟩, ?_⟩⟩
  · exact no_loops (by kernel_rfl)
  · exact no_cuts (by kernel_rfl)
  · rintro s0
    kernel_rfl
/- 92 loop.example/g01005/spec.l05Before -/
def spec_l05Before_l0 (k : Nat) : Nat → (List Int) → (List Int) → Int → (Option Bool) → Option Bool
  | 0, _, _, _, _ => none
  | n + 1, a0, b1, i5, e_0 => (if (decide (i5 < (List.length a0 : Int))) = true then (if 0 ≤ i5 then (a0[i5.toNat]?).bind fun y_1 => (if 0 ≤ i5 then (b1[i5.toNat]?).bind fun y_2 => (if (!(decide (y_1 = y_2))) = true then (if 0 ≤ i5 then (a0[i5.toNat]?).bind fun y_3 => (if 0 ≤ i5 then (b1[i5.toNat]?).bind fun y_4 => some (decide (y_3 < y_4)) else none) else none) else spec_l05Before_l0 k n a0 b1 (w_i64 (i5 + 1)) e_0) else none) else none) else e_0)
def spec_l05Before (k : Nat) (a0 : List Int) (b1 : List Int) : Option Bool := (if (!(decide ((List.length a0 : Int) = (List.length b1 : Int)))) = true then some (decide ((List.length a0 : Int) < (List.length b1 : Int))) else spec_l05Before_l0 k k a0 b1 0 (some false))
def spec_l05Before_l0_h : Head := ⟨[(0, (.val (.sl 2 (.int .i64)))), (1, (.val (.sl 2 (.int .i64)))), (5, (.val (.int .i64)))], [], []⟩
def spec_l05Before_l0_x0 : Head := ⟨[], [], []⟩
def spec_l05Before_l0_F (k n : Nat) (x : spec_l05Before_l0_h.T) (kx : Nat → St → Option Bool) : Option Bool := spec_l05Before_l0 k n x.1.1 x.1.2.1 x.1.2.2.1 (kx 0 (spec_l05Before_l0_x0.fill ((), (), ())))
def spec_l05Before_O (k : Nat) : Oracles Bool := ⟨fun n => bif Nat.beq n 4 then some (fun σ kx => spec_l05Before_l0_h.get σ fun x => spec_l05Before_l0_F k k x kx) else none, fun _ => none⟩
def fe_spec_l05Before (k : Nat) : FE := ⟨(.pr (.sl 2 (.int .i64)) (.sl 2 (.int .i64))), 1, .bool, fun x => spec_l05Before k x.1 x.2⟩
theorem spec_l05Before_l0_ok (k : Nat) : LoopOK (mkEnv ti [] (lk []) pins0 pinB0) (spec_l05Before_O k) (rdC (mkEnv ti [] (lk []) pins0 pinB0) [.tmp 4] .bool) ((loopsOf (codeOf Tryz.f92)).getD 0 .skip) (fun σ kx => spec_l05Before_l0_h.get σ fun x => spec_l05Before_l0_F k k x kx) := by
  refine ⟨spec_l05Before_l0_h, [(0, spec_l05Before_l0_x0)], fun n x kx => spec_l05Before_l0_F k n x kx, k, by kernel_rfl, by kernel_rfl, fun x kx => by kernel_rfl, ?_, fun σ kx => rfl⟩
  rintro n ⟨⟨a0, b1, i5, ⟨⟩⟩, ⟨⟩, ⟨⟩⟩ kx
  kernel_rfl
theorem ok_spec_l05Before (k : Nat) : FnOK Tryz.prog 92 (fe_spec_l05Before k) := by
  refine closed_ok (tab := []) (l := []) ti_ok ti_ht mix (List.forall_mem_nil _) (List.forall_mem_nil _) ⟨⟨Tryz.f92, (codeOf Tryz.f92), [.tmp 4], (spec_l05Before_O k), by kernel_rfl, by kernel_rfl, by kernel_rfl, by kernel_rfl, rfl, by decide, ⟨by kernel_rfl, ?_, ?_⟩, ?_⟩⟩
  · refine loops_of (n := 1) (by kernel_rfl) fun i hi => ?_
    match i, hi with
    | 0, _ => exact loop_of (by kernel_rfl) (spec_l05Before_l0_ok k)
    | n + 1, hi => omega
  · exact no_cuts (by kernel_rfl)
  · rintro ⟨a0, b1⟩
    kernel_rfl
/- 110 loop.example/g01005/spec.l00Own -/
def spec_l00Own (list0 : List Int) : Option (List Int) := (if (([] : List Unit).length + list0.length) * 8 ≤ LIM then some list0 else none)
def fe_spec_l00Own : FE := ⟨(.sl 2 (.int .i64)), 1, (.sl 2 (.int .i64)), fun x => spec_l00Own x⟩
theorem ok_spec_l00Own : FnOK Tryz.prog 110 (fe_spec_l00Own) := by
  refine closed_ok (tab := []) (l := []) ti_ok ti_ht mix (List.forall_mem_nil _) (List.forall_mem_nil _) ⟨⟨Tryz.f110, (codeOf Tryz.f110), [.tmp 2], (LOn (List Int)), by kernel_rfl, by kernel_rfl, by kernel_rfl, by kernel_rfl, rfl, by decide, ⟨by kernel_rfl, ?_, ?_⟩, ?_⟩⟩
  · exact no_loops (by kernel_rfl)
  · exact no_cuts (by kernel_rfl)
  · rintro list0
    kernel_rfl
/- 94 loop.example/g01005/spec.l05Drop -/
def spec_l05Drop (s0 : List Int) (k1 : Int) : Option (List Int) := (if 0 ≤ (0 : Int) ∧ (0 : Int) ≤ k1 ∧ k1 ≤ s0.length then (spec_l00Own (s0.take k1.toNat)).bind fun r_1 => (if 0 ≤ (w_i64 (k1 + 1)) ∧ (w_i64 (k1 + 1)) ≤ (s0.length : Int) ∧ (s0.length : Int) ≤ s0.length then (if (r_1.length + ((s0.drop ((w_i64 (k1 + 1)).toNat)).take (s0.length - (w_i64 (k1 + 1)).toNat)).length) * 8 ≤ LIM then some (r_1 ++ ((s0.drop ((w_i64 (k1 + 1)).toNat)).take (s0.length - (w_i64 (k1 + 1)).toNat))) else none) else none) else none)
def fe_spec_l05Drop : FE := ⟨(.pr (.sl 2 (.int .i64)) (.int .i64)), 1, (.sl 2 (.int .i64)), fun x => spec_l05Drop x.1 x.2⟩
theorem ok_spec_l05Drop : FnOK Tryz.prog 94 (fe_spec_l05Drop) := by
  refine closed_ok (tab := [(110, fe_spec_l00Own)]) (l := []) ti_ok ti_ht mix (List.forall_mem_cons.2 ⟨ok_spec_l00Own, (List.forall_mem_nil _)⟩) (List.forall_mem_nil _) ⟨⟨Tryz.f94, (codeOf Tryz.f94), [.tmp 4], (LOn (List Int)), by kernel_rfl, by kernel_rfl, by kernel_rfl, by kernel_rfl, rfl, by decide, ⟨by kernel_rfl, ?_, ?_⟩, ?_⟩⟩
  · exact no_loops (by kernel_rfl)
  · exact no_cuts (by kernel_rfl)
  · rintro ⟨s0, k1⟩
    kernel_rfl
/- 109 loop.example/g01005/spec.l00Same -/
def spec_l00Same_l0 (k : Nat) : Nat → (List Int) → (List Int) → Int → (Option Bool) → Option Bool
  | 0, _, _, _, _ => none
  | n + 1, a0, b1, i5, e_0 => (if (decide (i5 < (List.length a0 : Int))) = true then (if 0 ≤ i5 then (a0[i5.toNat]?).bind fun y_1 => (if 0 ≤ i5 then (b1[i5.toNat]?).bind fun y_2 => (if (!(decide (y_1 = y_2))) = true then some false else spec_l00Same_l0 k n a0 b1 (w_i64 (i5 + 1)) e_0) else none) else none) else e_0)
def spec_l00Same (k : Nat) (a0 : List Int) (b1 : List Int) : Option Bool := (if (!(decide ((List.length a0 : Int) = (List.length b1 : Int)))) = true then some false else spec_l00Same_l0 k k a0 b1 0 (some true))
def spec_l00Same_l0_h : Head := ⟨[(0, (.val (.sl 2 (.int .i64)))), (1, (.val (.sl 2 (.int .i64)))), (5, (.val (.int .i64)))], [], []⟩
def spec_l00Same_l0_x0 : Head := ⟨[], [], []⟩
def spec_l00Same_l0_F (k n : Nat) (x : spec_l00Same_l0_h.T) (kx : Nat → St → Option Bool) : Option Bool := spec_l00Same_l0 k n x.1.1 x.1.2.1 x.1.2.2.1 (kx 0 (spec_l00Same_l0_x0.fill ((), (), ())))
def spec_l00Same_O (k : Nat) : Oracles Bool := ⟨fun n => bif Nat.beq n 4 then some (fun σ kx => spec_l00Same_l0_h.get σ fun x => spec_l00Same_l0_F k k x kx) else none, fun _ => none⟩
def fe_spec_l00Same (k : Nat) : FE := ⟨(.pr (.sl 2 (.int .i64)) (.sl 2 (.int .i64))), 1, .bool, fun x => spec_l00Same k x.1 x.2⟩
theorem spec_l00Same_l0_ok (k : Nat) : LoopOK (mkEnv ti [] (lk []) pins0 pinB0) (spec_l00Same_O k) (rdC (mkEnv ti [] (lk []) pins0 pinB0) [.tmp 4] .bool) ((loopsOf (codeOf Tryz.f109)).getD 0 .skip) (fun σ kx => spec_l00Same_l0_h.get σ fun x => spec_l00Same_l0_F k k x kx) := by
  refine ⟨spec_l00Same_l0_h, [(0, spec_l00Same_l0_x0)], fun n x kx => spec_l00Same_l0_F k n x kx, k, by kernel_rfl, by kernel_rfl, fun x kx => by kernel_rfl, ?_, fun σ kx => rfl⟩
  rintro n ⟨⟨a0, b1, i5, ⟨⟩⟩, ⟨⟩, ⟨⟩⟩ kx
  kernel_rfl
theorem ok_spec_l00Same (k : Nat) : FnOK Tryz.prog 109 (fe_spec_l00Same k) := by
  refine closed_ok (tab := []) (l := []) ti_ok ti_ht mix (List.forall_mem_nil _) (List.forall_mem_nil _) ⟨⟨Tryz.f109, (codeOf Tryz.f109), [.tmp 4], (spec_l00Same_O k), by kernel_rfl, by kernel_rfl, by kernel_rfl, by kernel_rfl, rfl, by decide, ⟨by kernel_rfl, ?_, ?_⟩, ?_⟩⟩
  · refine loops_of (n := 1) (by kernel_rfl) fun i hi => ?_
    match i, hi with
    | 0, _ => exact loop_of (by kernel_rfl) (spec_l00Same_l0_ok k)
    | n + 1, hi => omega
  · exact no_cuts (by kernel_rfl)
  · rintro ⟨a0, b1⟩
    kernel_rfl
/- 93 loop.example/g01005/spec.l05Find -/
def spec_l05Find_l0 (k : Nat) : Nat → (List (List Int)) → (List Int) → Int → (Option Int) → Option Int
  | 0, _, _, _, _ => none
  | n + 1, c0, s1, i5, e_0 => (if (decide (i5 < (List.length c0 : Int))) = true then (if 0 ≤ i5 then (c0[i5.toNat]?).bind fun y_1 => (spec_l00Same k y_1 s1).bind fun r_2 => (if r_2 = true then some i5 else spec_l05Find_l0 k n c0 s1 (w_i64 (i5 + 1)) e_0) else none) else e_0)
def spec_l05Find (k : Nat) (c0 : List (List Int)) (s1 : List Int) : Option Int := spec_l05Find_l0 k k c0 s1 0 (some (-1))
def spec_l05Find_l0_h : Head := ⟨[(0, (.val (.ptr (.st (.sl 25 (.sl 2 (.int .i64))))))), (1, (.val (.sl 2 (.int .i64)))), (5, (.val (.int .i64)))], [], []⟩
def spec_l05Find_l0_x0 : Head := ⟨[], [], []⟩
def spec_l05Find_l0_F (k n : Nat) (x : spec_l05Find_l0_h.T) (kx : Nat → St → Option Int) : Option Int := spec_l05Find_l0 k n x.1.1 x.1.2.1 x.1.2.2.1 (kx 0 (spec_l05Find_l0_x0.fill ((), (), ())))
def spec_l05Find_O (k : Nat) : Oracles Int := ⟨fun n => bif Nat.beq n 2 then some (fun σ kx => spec_l05Find_l0_h.get σ fun x => spec_l05Find_l0_F k k x kx) else none, fun _ => none⟩
def fe_spec_l05Find (k : Nat) : FE := ⟨(.pr (.ptr (.st (.sl 25 (.sl 2 (.int .i64))))) (.sl 2 (.int .i64))), 1, (.int .i64), fun x => spec_l05Find k x.1 x.2⟩
theorem spec_l05Find_l0_ok (k : Nat) : LoopOK (mkEnv ti [(109, fe_spec_l00Same k)] (lk []) pins0 pinB0) (spec_l05Find_O k) (rdC (mkEnv ti [(109, fe_spec_l00Same k)] (lk []) pins0 pinB0) [.tmp 4] (.int .i64)) ((loopsOf (codeOf Tryz.f93)).getD 0 .skip) (fun σ kx => spec_l05Find_l0_h.get σ fun x => spec_l05Find_l0_F k k x kx) := by
  refine ⟨spec_l05Find_l0_h, [(0, spec_l05Find_l0_x0)], fun n x kx => spec_l05Find_l0_F k n x kx, k, by kernel_rfl, by kernel_rfl, fun x kx => by kernel_rfl, ?_, fun σ kx => rfl⟩
  rintro n ⟨⟨c0, s1, i5, ⟨⟩⟩, ⟨⟩, ⟨⟩⟩ kx
  kernel_rfl
theorem ok_spec_l05Find (k : Nat) : FnOK Tryz.prog 93 (fe_spec_l05Find k) := by
  refine closed_ok (tab := [(109, fe_spec_l00Same k)]) (l := []) ti_ok ti_ht mix (List.forall_mem_cons.2 ⟨ok_spec_l00Same k, (List.forall_mem_nil _)⟩) (List.forall_mem_nil _) ⟨⟨Tryz.f93, (codeOf Tryz.f93), [.tmp 4], (spec_l05Find_O k), by kernel_rfl, by kernel_rfl, by kernel_rfl, by kernel_rfl, rfl, by decide, ⟨by kernel_rfl, ?_, ?_⟩, ?_⟩⟩
  · refine loops_of (n := 1) (by kernel_rfl) fun i hi => ?_
    match i, hi with
    | 0, _ => exact loop_of (by kernel_rfl) (spec_l05Find_l0_ok k)
    | n + 1, hi => omega
  · exact no_cuts (by kernel_rfl)
  · rintro ⟨c0, s1⟩
    kernel_rfl
/- 62 loop.example/g01005/spec.l05Ok -/
def spec_l05Ok_l1 (k : Nat) : Nat → (List (List Int)) → Int → (List Int) → Int → ((List (List Int)) → Int → Option Bool) → Option Bool
  | 0, _, _, _, _, _ => none
  | n + 1, c0, i3, s4, k5, e_2 => (if (decide (k5 < (List.length s4 : Int))) = true then (if (decide (1 < (List.length s4 : Int))) = true then (spec_l05Drop s4 k5).bind fun r_5 => (spec_l05Find k c0 r_5).bind fun r_6 => (if (decide (r_6 < 0)) = true then some false else spec_l05Ok_l1 k n c0 i3 s4 (w_i64 (k5 + 1)) e_2) else e_2 c0 i3) else e_2 c0 i3)
def spec_l05Ok_l0 (k : Nat) : Nat → (List (List Int)) → Int → (Option Bool) → Option Bool
  | 0, _, _, _ => none
  | n + 1, c0, i3, e_0 => (if (decide (i3 < (List.length c0 : Int))) = true then (if 0 ≤ i3 then (c0[i3.toNat]?).bind fun y_1 => (spec_l05Simplex k y_1).bind fun r_2 => (if (!r_2) = true then some false else (if (decide (0 < i3)) = true then (if 0 ≤ (w_i64 (i3 - 1)) then (c0[(w_i64 (i3 - 1)).toNat]?).bind fun y_3 => (spec_l05Before k y_3 y_1).bind fun r_4 => (if (!r_4) = true then some false else spec_l05Ok_l1 k k c0 i3 y_1 0 (fun c_5 i_6 => spec_l05Ok_l0 k n c_5 (w_i64 (i_6 + 1)) e_0)) else none) else spec_l05Ok_l1 k k c0 i3 y_1 0 (fun c_7 i_8 => spec_l05Ok_l0 k n c_7 (w_i64 (i_8 + 1)) e_0))) else none) else e_0)
def spec_l05Ok (k : Nat) (c0 : List (List Int)) : Option Bool := (if (decide (48 < (List.length c0 : Int))) = true then some false else spec_l05Ok_l0 k k c0 0 (some true))
def spec_l05Ok_l1_h : Head := ⟨[(0, (.val (.ptr (.st (.sl 25 (.sl 2 (.int .i64))))))), (3, (.val (.int .i64))), (4, (.val (.sl 2 (.int .i64)))), (5, (.val (.int .i64)))], [], []⟩
def spec_l05Ok_l1_x2 : Head := ⟨[(0, (.val (.ptr (.st (.sl 25 (.sl 2 (.int .i64))))))), (3, (.val (.int .i64)))], [], []⟩
def spec_l05Ok_l1_F (k n : Nat) (x : spec_l05Ok_l1_h.T) (kx : Nat → St → Option Bool) : Option Bool := spec_l05Ok_l1 k n x.1.1 x.1.2.1 x.1.2.2.1 x.1.2.2.2.1 (fun (c0 : List (List Int)) (i3 : Int) => kx 2 (spec_l05Ok_l1_x2.fill ((c0, i3, ()), (), ())))
def spec_l05Ok_l0_h : Head := ⟨[(0, (.val (.ptr (.st (.sl 25 (.sl 2 (.int .i64))))))), (3, (.val (.int .i64)))], [], []⟩
def spec_l05Ok_l0_x0 : Head := ⟨[], [], []⟩
def spec_l05Ok_l0_F (k n : Nat) (x : spec_l05Ok_l0_h.T) (kx : Nat → St → Option Bool) : Option Bool := spec_l05Ok_l0 k n x.1.1 x.1.2.1 (kx 0 (spec_l05Ok_l0_x0.fill ((), (), ())))
def spec_l05Ok_O (k : Nat) : Oracles Bool := ⟨fun n => bif Nat.beq n 10 then some (fun σ kx => spec_l05Ok_l1_h.get σ fun x => spec_l05Ok_l1_F k k x kx) else bif Nat.beq n 4 then some (fun σ kx => spec_l05Ok_l0_h.get σ fun x => spec_l05Ok_l0_F k k x kx) else none, fun _ => none⟩
def fe_spec_l05Ok (k : Nat) : FE := ⟨(.ptr (.st (.sl 25 (.sl 2 (.int .i64))))), 1, .bool, fun x => spec_l05Ok k x⟩
theorem spec_l05Ok_l1_ok (k : Nat) : LoopOK (mkEnv ti [(91, fe_spec_l05Simplex k), (92, fe_spec_l05Before k), (94, fe_spec_l05Drop), (93, fe_spec_l05Find k)] (lk []) pins0 pinB0) (spec_l05Ok_O k) (rdC (mkEnv ti [(91, fe_spec_l05Simplex k), (92, fe_spec_l05Before k), (94, fe_spec_l05Drop), (93, fe_spec_l05Find k)] (lk []) pins0 pinB0) [.tmp 2] .bool) ((loopsOf (codeOf Tryz.f62)).getD 1 .skip) (fun σ kx => spec_l05Ok_l1_h.get σ fun x => spec_l05Ok_l1_F k k x kx) := by
  refine ⟨spec_l05Ok_l1_h, [(2, spec_l05Ok_l1_x2)], fun n x kx => spec_l05Ok_l1_F k n x kx, k, by kernel_rfl, by kernel_rfl, fun x kx => by kernel_rfl, ?_, fun σ kx => rfl⟩
  rintro n ⟨⟨c0, i3, s4, k5, ⟨⟩⟩, ⟨⟩, ⟨⟩⟩ kx
  kernel_rfl
theorem spec_l05Ok_l0_ok (k : Nat) : LoopOK (mkEnv ti [(91, fe_spec_l05Simplex k), (92, fe_spec_l05Before k), (94, fe_spec_l05Drop), (93, fe_spec_l05Find k)] (lk []) pins0 pinB0) (spec_l05Ok_O k) (rdC (mkEnv ti [(91, fe_spec_l05Simplex k), (92, fe_spec_l05Before k), (94, fe_spec_l05Drop), (93, fe_spec_l05Find k)] (lk []) pins0 pinB0) [.tmp 2] .bool) ((loopsOf (codeOf Tryz.f62)).getD 0 .skip) (fun σ kx => spec_l05Ok_l0_h.get σ fun x => spec_l05Ok_l0_F k k x kx) := by
  refine ⟨spec_l05Ok_l0_h, [(0, spec_l05Ok_l0_x0)], fun n x kx => spec_l05Ok_l0_F k n x kx, k, by kernel_rfl, by kernel_rfl, fun x kx => by kernel_rfl, ?_, fun σ kx => rfl⟩
  rintro n ⟨⟨c0, i3, ⟨⟩⟩, ⟨⟩, ⟨⟩⟩ kx
  kernel_rfl
theorem ok_spec_l05Ok (k : Nat) : FnOK Tryz.prog 62 (fe_spec_l05Ok k) := by
  refine closed_ok (tab := [(91, fe_spec_l05Simplex k), (92, fe_spec_l05Before k), (94, fe_spec_l05Drop), (93, fe_spec_l05Find k)]) (l := []) ti_ok ti_ht mix (List.forall_mem_cons.2 ⟨ok_spec_l05Simplex k, (List.forall_mem_cons.2 ⟨ok_spec_l05Before k, (List.forall_mem_cons.2 ⟨ok_spec_l05Drop, (List.forall_mem_cons.2 ⟨ok_spec_l05Find k, (List.forall_mem_nil _)⟩)⟩)⟩)⟩) (List.forall_mem_nil _) ⟨⟨Tryz.f62, (codeOf Tryz.f62), [.tmp 2], (spec_l05Ok_O k), by kernel_rfl, by kernel_rfl, by kernel_rfl, by kernel_rfl, rfl, by decide, ⟨by kernel_rfl, ?_, ?_⟩, ?_⟩⟩
  · refine loops_of (n := 2) (by kernel_rfl) fun i hi => ?_
    match i, hi with
    | 0, _ => exact loop_of (by kernel_rfl) (spec_l05Ok_l0_ok k)
    | 1, _ => exact loop_of (by kernel_rfl) (spec_l05Ok_l1_ok k)
    | n + 2, hi => omega
  · exact no_cuts (by kernel_rfl)
  · rintro c0
    kernel_rfl
/- 95 loop.example/g01005/spec.l02Prime -/
def spec_l02Prime_l0 (k : Nat) : Nat → Int → Int → (Option Bool) → Option Bool
  | 0, _, _, _ => none
  | n + 1, p0, k3, e_0 => (if (decide ((w_i64 (k3 * k3)) ≤ p0)) = true then (if k3 = 0 then none else (if (decide ((Int.tmod p0 k3) = 0)) = true then some false else spec_l02Prime_l0 k n p0 (w_i64 (k3 + 1)) e_0)) else e_0)
def spec_l02Prime (k : Nat) (p0 : Int) : Option Bool := (spec_l00In p0 2 251).bind fun r_1 => (if (!r_1) = true then some false else spec_l02Prime_l0 k k p0 2 (some true))
def spec_l02Prime_l0_h : Head := ⟨[(0, (.val (.int .i64))), (3, (.val (.int .i64)))], [], []⟩
def spec_l02Prime_l0_x0 : Head := ⟨[], [], []⟩
def spec_l02Prime_l0_F (k n : Nat) (x : spec_l02Prime_l0_h.T) (kx : Nat → St → Option Bool) : Option Bool := spec_l02Prime_l0 k n x.1.1 x.1.2.1 (kx 0 (spec_l02Prime_l0_x0.fill ((), (), ())))
def spec_l02Prime_O (k : Nat) : Oracles Bool := ⟨fun n => bif Nat.beq n 4 then some (fun σ kx => spec_l02Prime_l0_h.get σ fun x => spec_l02Prime_l0_F k k x kx) else none, fun _ => none⟩
def fe_spec_l02Prime (k : Nat) : FE := ⟨(.int .i64), 1, .bool, fun x => spec_l02Prime k x⟩
theorem spec_l02Prime_l0_ok (k : Nat) : LoopOK (mkEnv ti [(68, fe_spec_l00In)] (lk []) pins0 pinB0) (spec_l02Prime_O k) (rdC (mkEnv ti [(68, fe_spec_l00In)] (lk []) pins0 pinB0) [.tmp 2] .bool) ((loopsOf (codeOf Tryz.f95)).getD 0 .skip) (fun σ kx => spec_l02Prime_l0_h.get σ fun x => spec_l02Prime_l0_F k k x kx) := by
  refine ⟨spec_l02Prime_l0_h, [(0, spec_l02Prime_l0_x0)], fun n x kx => spec_l02Prime_l0_F k n x kx, k, by kernel_rfl, by kernel_rfl, fun x kx => by kernel_rfl, ?_, fun σ kx => rfl⟩
  rintro n ⟨⟨p0, k3, ⟨⟩⟩, ⟨⟩, ⟨⟩⟩ kx
  kernel_rfl
theorem ok_spec_l02Prime (k : Nat) : FnOK Tryz.prog 95 (fe_spec_l02Prime k) := by
  refine closed_ok (tab := [(68, fe_spec_l00In)]) (l := []) ti_ok ti_ht mix (List.forall_mem_cons.2 ⟨ok_spec_l00In, (List.forall_mem_nil _)⟩) (List.forall_mem_nil _) ⟨⟨Tryz.f95, (codeOf Tryz.f95), [.tmp 2], (spec_l02Prime_O k), by kernel_rfl, by kernel_rfl, by kernel_rfl, by kernel_rfl, rfl, by decide, ⟨by kernel_rfl, ?_, ?_⟩, ?_⟩⟩
  · refine loops_of (n := 1) (by kernel_rfl) fun i hi => ?_
    match i, hi with
    | 0, _ => exact loop_of (by kernel_rfl) (spec_l02Prime_l0_ok k)
    | n + 1, hi => omega
  · exact no_cuts (by kernel_rfl)
  · rintro p0
    kernel_rfl
/- 63 loop.example/g01005/spec.ValidPrime -/
def spec_ValidPrime (k : Nat) (p0 : Int) : Option Bool := (spec_l02Prime k p0).bind fun r_1 => some r_1
def fe_spec_ValidPrime (k : Nat) : FE := ⟨(.int .i64), 1, .bool, fun x => spec_ValidPrime k x⟩
theorem ok_spec_ValidPrime (k : Nat) : FnOK Tryz.prog 63 (fe_spec_ValidPrime k) := by
  refine closed_ok (tab := [(95, fe_spec_l02Prime k)]) (l := []) ti_ok ti_ht mix (List.forall_mem_cons.2 ⟨ok_spec_l02Prime k, (List.forall_mem_nil _)⟩) (List.forall_mem_nil _) ⟨⟨Tryz.f63, (codeOf Tryz.f63), [.tmp 2], (LOn Bool), by kernel_rfl, by kernel_rfl, by kernel_rfl, by kernel_rfl, rfl, by decide, ⟨by kernel_rfl, ?_, ?_⟩, ?_⟩⟩
  · exact no_loops (by kernel_rfl)
  · exact no_cuts (by kernel_rfl)
  · rintro p0
    kernel_rfl
/- 35 loop.example/g01005/spec.l03Column -/
def spec_l03Column_l0 (k : Nat) : Nat → (List Int) → Int → Int → Int → ((List Int) → Int → Option Bool) → Option Bool
  | 0, _, _, _, _, _ => none
  | n + 1, v0, n1, p2, i7, e_0 => (if (decide (i7 < (List.length v0 : Int))) = true then (if 0 ≤ i7 then (v0[i7.toNat]?).bind fun y_1 => (spec_l00In y_1 0 (w_i64 (p2 - 1))).bind fun r_2 => (if (!r_2) = true then some false else spec_l03Column_l0 k n v0 n1 p2 (w_i64 (i7 + 1)) e_0) else none) else e_0 v0 n1)
def spec_l03Column (k : Nat) (v0 : List Int) (n1 : Int) (p2 : Int) : Option Bool := spec_l03Column_l0 k k v0 n1 p2 0 (fun v_3 n_4 => some (decide ((List.length v_3 : Int) = n_4)))
def spec_l03Column_l0_h : Head := ⟨[(0, (.val (.sl 2 (.int .i64)))), (1, (.val (.int .i64))), (2, (.val (.int .i64))), (7, (.val (.int .i64)))], [], []⟩
def spec_l03Column_l0_x0 : Head := ⟨[(0, (.val (.sl 2 (.int .i64)))), (1, (.val (.int .i64)))], [], []⟩
def spec_l03Column_l0_F (k n : Nat) (x : spec_l03Column_l0_h.T) (kx : Nat → St → Option Bool) : Option Bool := spec_l03Column_l0 k n x.1.1 x.1.2.1 x.1.2.2.1 x.1.2.2.2.1 (fun (v0 : List Int) (n1 : Int) => kx 0 (spec_l03Column_l0_x0.fill ((v0, n1, ()), (), ())))
def spec_l03Column_O (k : Nat) : Oracles Bool := ⟨fun n => bif Nat.beq n 2 then some (fun σ kx => spec_l03Column_l0_h.get σ fun x => spec_l03Column_l0_F k k x kx) else none, fun _ => none⟩
def fe_spec_l03Column (k : Nat) : FE := ⟨(.pr (.sl 2 (.int .i64)) (.pr (.int .i64) (.int .i64))), 1, .bool, fun x => spec_l03Column k x.1 x.2.1 x.2.2⟩
theorem spec_l03Column_l0_ok (k : Nat) : LoopOK (mkEnv ti [(68, fe_spec_l00In)] (lk []) pins0 pinB0) (spec_l03Column_O k) (rdC (mkEnv ti [(68, fe_spec_l00In)] (lk []) pins0 pinB0) [.tmp 6] .bool) ((loopsOf (codeOf Tryz.f35)).getD 0 .skip) (fun σ kx => spec_l03Column_l0_h.get σ fun x => spec_l03Column_l0_F k k x kx) := by
  refine ⟨spec_l03Column_l0_h, [(0, spec_l03Column_l0_x0)], fun n x kx => spec_l03Column_l0_F k n x kx, k, by kernel_rfl, by kernel_rfl, fun x kx => by kernel_rfl, ?_, fun σ kx => rfl⟩
  rintro n ⟨⟨v0, n1, p2, i7, ⟨⟩⟩, ⟨⟩, ⟨⟩⟩ kx
  kernel_rfl
theorem ok_spec_l03Column (k : Nat) : FnOK Tryz.prog 35 (fe_spec_l03Column k) := by
  refine closed_ok (tab := [(68, fe_spec_l00In)]) (l := []) ti_ok ti_ht mix (List.forall_mem_cons.2 ⟨ok_spec_l00In, (List.forall_mem_nil _)⟩) (List.forall_mem_nil _) ⟨⟨Tryz.f35, (codeOf Tryz.f35), [.tmp 6], (spec_l03Column_O k), by kernel_rfl, by kernel_rfl, by kernel_rfl, by kernel_rfl, rfl, by decide, ⟨by kernel_rfl, ?_, ?_⟩, ?_⟩⟩
  · refine loops_of (n := 1) (by kernel_rfl) fun i hi => ?_
    match i, hi with
    | 0, _ => exact loop_of (by kernel_rfl) (spec_l03Column_l0_ok k)
    | n + 1, hi => omega
  · exact no_cuts (by kernel_rfl)
  · rintro ⟨v0, n1, p2⟩
    kernel_rfl
/- 69 loop.example/g01005/spec.l05Of -/
def spec_l05Of_l0 (k : Nat) : Nat → (List (List Int)) → Int → Int → (List Int) → ((List Int) → Option (List Int)) → Option (List Int)
  | 0, _, _, _, _, _ => none
  | n + 1, c0, dimension1, i6, q_1, e_0 => (if (decide (i6 < (List.length c0 : Int))) = true then (if 0 ≤ i6 then (c0[i6.toNat]?).bind fun y_2 => (if (decide ((List.length y_2 : Int) = (w_i64 (dimension1 + 1)))) = true then (if (q_1.length + [i6].length) * 8 ≤ LIM then spec_l05Of_l0 k n c0 dimension1 (w_i64 (i6 + 1)) (q_1 ++ [i6]) e_0 else none) else spec_l05Of_l0 k n c0 dimension1 (w_i64 (i6 + 1)) q_1 e_0) else none) else e_0 q_1)
def spec_l05Of (k : Nat) (c0 : List (List Int)) (dimension1 : Int) : Option (List Int) := spec_l05Of_l0 k k c0 dimension1 0 [] (fun q_3 => some q_3)
def spec_l05Of_l0_h : Head := ⟨[(0, (.val (.ptr (.st (.sl 25 (.sl 2 (.int .i64))))))), (1, (.val (.int .i64))), (5, (.ref 64000000 [])), (6, (.val (.int .i64)))], [(64000000, 2, (.int .i64), false)], []⟩
def spec_l05Of_l0_x0 : Head := ⟨[(5, (.ref 64000000 []))], [(64000000, 2, (.int .i64), false)], []⟩
def spec_l05Of_l0_F (k n : Nat) (x : spec_l05Of_l0_h.T) (kx : Nat → St → Option (List Int)) : Option (List Int) := spec_l05Of_l0 k n x.1.1 x.1.2.1 x.1.2.2.2.1 x.2.1.1 (fun (q_3 : List Int) => kx 0 (spec_l05Of_l0_x0.fill (((), ()), (q_3, ()), ())))
def spec_l05Of_O (k : Nat) : Oracles (List Int) := ⟨fun n => bif Nat.beq n 3 then some (fun σ kx => spec_l05Of_l0_h.get σ fun x => spec_l05Of_l0_F k k x kx) else none, fun _ => none⟩
def fe_spec_l05Of (k : Nat) : FE := ⟨(.pr (.ptr (.st (.sl 25 (.sl 2 (.int .i64))))) (.int .i64)), 1, (.sl 2 (.int .i64)), fun x => spec_l05Of k x.1 x.2⟩
theorem spec_l05Of_l0_ok (k : Nat) : LoopOK (mkEnv ti [] (lk []) pins0 pinB0) (spec_l05Of_O k) (rdC (mkEnv ti [] (lk []) pins0 pinB0) [.tmp 4] (.sl 2 (.int .i64))) ((loopsOf (codeOf Tryz.f69)).getD 0 .skip) (fun σ kx => spec_l05Of_l0_h.get σ fun x => spec_l05Of_l0_F k k x kx) := by
  refine ⟨spec_l05Of_l0_h, [(0, spec_l05Of_l0_x0)], fun n x kx => spec_l05Of_l0_F k n x kx, k, by kernel_rfl, by kernel_rfl, fun x kx => by kernel_rfl, ?_, fun σ kx => rfl⟩
  rintro n ⟨⟨c0, dimension1, ⟨⟩, i6, ⟨⟩⟩, ⟨q_1, ⟨⟩⟩, ⟨⟩⟩ kx
  kernel_rfl
theorem ok_spec_l05Of (k : Nat) : FnOK Tryz.prog 69 (fe_spec_l05Of k) := by
  refine closed_ok (tab := []) (l := []) ti_ok ti_ht mix (List.forall_mem_nil _) (List.forall_mem_nil _) ⟨⟨Tryz.f69, (codeOf Tryz.f69), [.tmp 4], (spec_l05Of_O k), by kernel_rfl, by kernel_rfl, by kernel_rfl, by kernel_rfl, rfl, by decide, ⟨by kernel_rfl, ?_, ?_⟩, ?_⟩⟩
  · refine loops_of (n := 1) (by kernel_rfl) fun i hi => ?_
    match i, hi with
    | 0, _ => exact loop_of (by kernel_rfl) (spec_l05Of_l0_ok k)
    | n + 1, hi => omega
  · exact no_cuts (by kernel_rfl)
  · rintro ⟨c0, dimension1⟩
    kernel_rfl
/- 36 loop.example/g01005/spec.l09Sum -/
def spec_l09Sum_l0 (k : Nat) : Nat → (List Int) → Int → Int → (List Int) → (Int → Option Int) → Option Int
  | 0, _, _, _, _, _ => none
  | n + 1, stalks1, sum8, i9, q_2, e_0 => (if (decide (i9 < (List.length q_2 : Int))) = true then (if 0 ≤ i9 ∧ i9.toNat < List.length q_2 then (q_2[i9.toNat]?).bind fun y_3 => (if 0 ≤ y_3 then (stalks1[y_3.toNat]?).bind fun y_4 => spec_l09Sum_l0 k n stalks1 (w_i64 (sum8 + y_4)) (w_i64 (i9 + 1)) q_2 e_0 else none) else none) else e_0 sum8)
def spec_l09Sum (k : Nat) (c0 : List (List Int)) (stalks1 : List Int) (k2 : Int) : Option Int := (spec_l05Of k c0 k2).bind fun r_1 => spec_l09Sum_l0 k k stalks1 0 0 r_1 (fun sum_5 => some sum_5)
def spec_l09Sum_l0_h : Head := ⟨[(1, (.val (.sl 2 (.int .i64)))), (7, (.ref 64000000 [])), (8, (.val (.int .i64))), (9, (.val (.int .i64)))], [(64000000, 2, (.int .i64), false)], []⟩
def spec_l09Sum_l0_x0 : Head := ⟨[(8, (.val (.int .i64)))], [], []⟩
def spec_l09Sum_l0_F (k n : Nat) (x : spec_l09Sum_l0_h.T) (kx : Nat → St → Option Int) : Option Int := spec_l09Sum_l0 k n x.1.1 x.1.2.2.1 x.1.2.2.2.1 x.2.1.1 (fun (sum8 : Int) => kx 0 (spec_l09Sum_l0_x0.fill ((sum8, ()), (), ())))
def spec_l09Sum_O (k : Nat) : Oracles Int := ⟨fun n => bif Nat.beq n 4 then some (fun σ kx => spec_l09Sum_l0_h.get σ fun x => spec_l09Sum_l0_F k k x kx) else none, fun _ => none⟩
def fe_spec_l09Sum (k : Nat) : FE := ⟨(.pr (.ptr (.st (.sl 25 (.sl 2 (.int .i64))))) (.pr (.sl 2 (.int .i64)) (.int .i64))), 1, (.int .i64), fun x => spec_l09Sum k x.1 x.2.1 x.2.2⟩
theorem spec_l09Sum_l0_ok (k : Nat) : LoopOK (mkEnv ti [(69, fe_spec_l05Of k)] (lk []) pins0 pinB0) (spec_l09Sum_O k) (rdC (mkEnv ti [(69, fe_spec_l05Of k)] (lk []) pins0 pinB0) [.tmp 6] (.int .i64)) ((loopsOf (codeOf Tryz.f36)).getD 0 .skip) (fun σ kx => spec_l09Sum_l0_h.get σ fun x => spec_l09Sum_l0_F k k x kx) := by
  refine ⟨spec_l09Sum_l0_h, [(0, spec_l09Sum_l0_x0)], fun n x kx => spec_l09Sum_l0_F k n x kx, k, by kernel_rfl, by kernel_rfl, fun x kx => by kernel_rfl, ?_, fun σ kx => rfl⟩
  rintro n ⟨⟨stalks1, ⟨⟩, sum8, i9, ⟨⟩⟩, ⟨q_2, ⟨⟩⟩, ⟨⟩⟩ kx
  kernel_rfl
theorem ok_spec_l09Sum (k : Nat) : FnOK Tryz.prog 36 (fe_spec_l09Sum k) := by
  refine closed_ok (tab := [(69, fe_spec_l05Of k)]) (l := []) ti_ok ti_ht mix (List.forall_mem_cons.2 ⟨ok_spec_l05Of k, (List.forall_mem_nil _)⟩) (List.forall_mem_nil _) ⟨⟨Tryz.f36, (codeOf Tryz.f36), [.tmp 6], (spec_l09Sum_O k), by kernel_rfl, by kernel_rfl, by kernel_rfl, by kernel_rfl, rfl, by decide, ⟨by kernel_rfl, ?_, ?_⟩, ?_⟩⟩
  · refine loops_of (n := 1) (by kernel_rfl) fun i hi => ?_
    match i, hi with
    | 0, _ => exact loop_of (by kernel_rfl) (spec_l09Sum_l0_ok k)
    | n + 1, hi => omega
  · exact no_cuts (by kernel_rfl)
  · rintro ⟨c0, stalks1, k2⟩
    kernel_rfl
/- 64 loop.example/g01005/spec.l09Stalks -/
def spec_l09Stalks_l0 (k : Nat) : Nat → (List (List Int)) → (List Int) → Int → (Option Bool) → Option Bool
  | 0, _, _, _, _ => none
  | n + 1, c0, stalks1, k5, e_0 => (if (decide (k5 ≤ 3)) = true then (spec_l09Sum k c0 stalks1 k5).bind fun r_2 => (if (decide (32 < r_2)) = true then some false else spec_l09Stalks_l0 k n c0 stalks1 (w_i64 (k5 + 1)) e_0) else e_0)
def spec_l09Stalks (k : Nat) (c0 : List (List Int)) (stalks1 : List Int) : Option Bool := (spec_l03Column k stalks1 (List.length c0 : Int) 4).bind fun r_1 => (if (!r_1) = true then some false else spec_l09Stalks_l0 k k c0 stalks1 0 (some true))
def spec_l09Stalks_l0_h : Head := ⟨[(0, (.val (.ptr (.st (.sl 25 (.sl 2 (.int .i64))))))), (1, (.val (.sl 2 (.int .i64)))), (5, (.val (.int .i64)))], [], []⟩
def spec_l09Stalks_l0_x0 : Head := ⟨[], [], []⟩
def spec_l09Stalks_l0_F (k n : Nat) (x : spec_l09Stalks_l0_h.T) (kx : Nat → St → Option Bool) : Option Bool := spec_l09Stalks_l0 k n x.1.1 x.1.2.1 x.1.2.2.1 (kx 0 (spec_l09Stalks_l0_x0.fill ((), (), ())))
def spec_l09Stalks_O (k : Nat) : Oracles Bool := ⟨fun n => bif Nat.beq n 4 then some (fun σ kx => spec_l09Stalks_l0_h.get σ fun x => spec_l09Stalks_l0_F k k x kx) else none, fun _ => none⟩
def fe_spec_l09Stalks (k : Nat) : FE := ⟨(.pr (.ptr (.st (.sl 25 (.sl 2 (.int .i64))))) (.sl 2 (.int .i64))), 1, .bool, fun x => spec_l09Stalks k x.1 x.2⟩
theorem spec_l09Stalks_l0_ok (k : Nat) : LoopOK (mkEnv ti [(35, fe_spec_l03Column k), (36, fe_spec_l09Sum k)] (lk []) pins0 pinB0) (spec_l09Stalks_O k) (rdC (mkEnv ti [(35, fe_spec_l03Column k), (36, fe_spec_l09Sum k)] (lk []) pins0 pinB0) [.tmp 4] .bool) ((loopsOf (codeOf Tryz.f64)).getD 0 .skip) (fun σ kx => spec_l09Stalks_l0_h.get σ fun x => spec_l09Stalks_l0_F k k x kx) := by
  refine ⟨spec_l09Stalks_l0_h, [(0, spec_l09Stalks_l0_x0)], fun n x kx => spec_l09Stalks_l0_F k n x kx, k, by kernel_rfl, by kernel_rfl, fun x kx => by kernel_rfl, ?_, fun σ kx => rfl⟩
  rintro n ⟨⟨c0, stalks1, k5, ⟨⟩⟩, ⟨⟩, ⟨⟩⟩ kx
  kernel_rfl
theorem ok_spec_l09Stalks (k : Nat) : FnOK Tryz.prog 64 (fe_spec_l09Stalks k) := by
  refine closed_ok (tab := [(35, fe_spec_l03Column k), (36, fe_spec_l09Sum k)]) (l := []) ti_ok ti_ht mix (List.forall_mem_cons.2 ⟨ok_spec_l03Column k, (List.forall_mem_cons.2 ⟨ok_spec_l09Sum k, (List.forall_mem_nil _)⟩)⟩) (List.forall_mem_nil _) ⟨⟨Tryz.f64, (codeOf Tryz.f64), [.tmp 4], (spec_l09Stalks_O k), by kernel_rfl, by kernel_rfl, by kernel_rfl, by kernel_rfl, rfl, by decide, ⟨by kernel_rfl, ?_, ?_⟩, ?_⟩⟩
  · refine loops_of (n := 1) (by kernel_rfl) fun i hi => ?_
    match i, hi with
    | 0, _ => exact loop_of (by kernel_rfl) (spec_l09Stalks_l0_ok k)
    | n + 1, hi => omega
  · exact no_cuts (by kernel_rfl)
  · rintro ⟨c0, stalks1⟩
    kernel_rfl
/- 67 loop.example/g01005/spec.l09Place -/
def spec_l09Place_l0 (k : Nat) : Nat → (List (List Int)) → Int → Int → Int → Int → (Int → Int → Option Int) → Option Int
  | 0, _, _, _, _, _, _ => none
  | n + 1, c0, simplex1, i2, at7, k8, e_0 => (if (decide (k8 < simplex1)) = true then (if 0 ≤ k8 then (c0[k8.toNat]?).bind fun y_1 => (if (decide (1 < (List.length y_1 : Int))) = true then (if 0 ≤ k8 then (c0[k8.toNat]?).bind fun y_2 => spec_l09Place_l0 k n c0 simplex1 i2 (w_i64 (at7 + (List.length y_2 : Int))) (w_i64 (k8 + 1)) e_0 else none) else spec_l09Place_l0 k n c0 simplex1 i2 at7 (w_i64 (k8 + 1)) e_0) else none) else e_0 i2 at7)
def spec_l09Place (k : Nat) (c0 : List (List Int)) (simplex1 : Int) (i2 : Int) : Option Int := spec_l09Place_l0 k k c0 simplex1 i2 0 0 (fun i_3 at_4 => some (w_i64 (at_4 + i_3)))
def spec_l09Place_l0_h : Head := ⟨[(0, (.val (.ptr (.st (.sl 25 (.sl 2 (.int .i64))))))), (1, (.val (.int .i64))), (2, (.val (.int .i64))), (7, (.val (.int .i64))), (8, (.val (.int .i64)))], [], []⟩
def spec_l09Place_l0_x0 : Head := ⟨[(2, (.val (.int .i64))), (7, (.val (.int .i64)))], [], []⟩
def spec_l09Place_l0_F (k n : Nat) (x : spec_l09Place_l0_h.T) (kx : Nat → St → Option Int) : Option Int := spec_l09Place_l0 k n x.1.1 x.1.2.1 x.1.2.2.1 x.1.2.2.2.1 x.1.2.2.2.2.1 (fun (i2 : Int) (at7 : Int) => kx 0 (spec_l09Place_l0_x0.fill ((i2, at7, ()), (), ())))
def spec_l09Place_O (k : Nat) : Oracles Int := ⟨fun n => bif Nat.beq n 3 then some (fun σ kx => spec_l09Place_l0_h.get σ fun x => spec_l09Place_l0_F k k x kx) else none, fun _ => none⟩
def fe_spec_l09Place (k : Nat) : FE := ⟨(.pr (.ptr (.st (.sl 25 (.sl 2 (.int .i64))))) (.pr (.int .i64) (.int .i64))), 1, (.int .i64), fun x => spec_l09Place k x.1 x.2.1 x.2.2⟩
theorem spec_l09Place_l0_ok (k : Nat) : LoopOK (mkEnv ti [] (lk []) pins0 pinB0) (spec_l09Place_O k) (rdC (mkEnv ti [] (lk []) pins0 pinB0) [.tmp 6] (.int .i64)) ((loopsOf (codeOf Tryz.f67)).getD 0 .skip) (fun σ kx => spec_l09Place_l0_h.get σ fun x => spec_l09Place_l0_F k k x kx) := by
  refine ⟨spec_l09Place_l0_h, [(0, spec_l09Place_l0_x0)], fun n x kx => spec_l09Place_l0_F k n x kx, k, by kernel_rfl, by kernel_rfl, fun x kx => by kernel_rfl, ?_, fun σ kx => rfl⟩
  rintro n ⟨⟨c0, simplex1, i2, at7, k8, ⟨⟩⟩, ⟨⟩, ⟨⟩⟩ kx
  kernel_rfl
theorem ok_spec_l09Place (k : Nat) : FnOK Tryz.prog 67 (fe_spec_l09Place k) := by
  refine closed_ok (tab := []) (l := []) ti_ok ti_ht mix (List.forall_mem_nil _) (List.forall_mem_nil _) ⟨⟨Tryz.f67, (codeOf Tryz.f67), [.tmp 6], (spec_l09Place_O k), by kernel_rfl, by kernel_rfl, by kernel_rfl, by kernel_rfl, rfl, by decide, ⟨by kernel_rfl, ?_, ?_⟩, ?_⟩⟩
  · refine loops_of (n := 1) (by kernel_rfl) fun i hi => ?_
    match i, hi with
    | 0, _ => exact loop_of (by kernel_rfl) (spec_l09Place_l0_ok k)
    | n + 1, hi => omega
  · exact no_cuts (by kernel_rfl)
  · rintro ⟨c0, simplex1, i2⟩
    kernel_rfl
end
end Go.Proofs.YtankbidchgcapaaGreat.Ev
