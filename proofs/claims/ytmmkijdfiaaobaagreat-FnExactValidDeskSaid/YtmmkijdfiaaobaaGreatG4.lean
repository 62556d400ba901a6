/- Functions of the program, as plain ones. No conditions. -/
import Derived.Test.YtmmkijdfiaaobaaGreatG3
import Derived.KernelRfl
set_option linter.unusedVariables false
set_option maxRecDepth 100000
namespace Go.Proofs.YtmmkijdfiaaobaaGreat.Ev
open Go.RowKit
noncomputable section
/- 141 loop.example/g01005/spec.l16Before -/
def spec_l16Before_l0 (k : Nat) : Nat → (List Int) → (List Int) → Int → ((List Int) → (List Int) → Option Bool) → Option Bool
  | 0, _, _, _, _ => none
  | n + 1, a0, b1, i5, e_0 => (if (decide (i5 < (List.length a0 : Int))) = true then (if (decide (i5 < (List.length b1 : Int))) = true then (if 0 ≤ i5 then (a0[i5.toNat]?).bind fun y_1 => (if 0 ≤ i5 then (b1[i5.toNat]?).bind fun y_2 => (if (!(decide (y_1 = y_2))) = true then (if 0 ≤ i5 then (a0[i5.toNat]?).bind fun y_3 => (if 0 ≤ i5 then (b1[i5.toNat]?).bind fun y_4 => some (decide (y_3 < y_4)) else none) else none) else spec_l16Before_l0 k n a0 b1 (w_i64 (i5 + 1)) e_0) else none) else none) else e_0 a0 b1) else e_0 a0 b1)
def spec_l16Before (k : Nat) (a0 : List Int) (b1 : List Int) : Option Bool := spec_l16Before_l0 k k a0 b1 0 (fun a_5 b_6 => some (decide ((List.length a_5 : Int) < (List.length b_6 : Int))))
def spec_l16Before_l0_h : Head := ⟨[(0, (.val (.sl 2 (.int .i64)))), (1, (.val (.sl 2 (.int .i64)))), (5, (.val (.int .i64)))], [], []⟩
def spec_l16Before_l0_x0 : Head := ⟨[(0, (.val (.sl 2 (.int .i64)))), (1, (.val (.sl 2 (.int .i64))))], [], []⟩
def spec_l16Before_l0_F (k n : Nat) (x : spec_l16Before_l0_h.T) (kx : Nat → St → Option Bool) : Option Bool := spec_l16Before_l0 k n x.1.1 x.1.2.1 x.1.2.2.1 (fun (a0 : List Int) (b1 : List Int) => kx 0 (spec_l16Before_l0_x0.fill ((a0, b1, ()), (), ())))
def spec_l16Before_O (k : Nat) : Oracles Bool := ⟨fun n => bif Nat.beq n 2 then some (fun σ kx => spec_l16Before_l0_h.get σ fun x => spec_l16Before_l0_F k k x kx) else none, fun _ => none⟩
def fe_spec_l16Before (k : Nat) : FE := ⟨(.pr (.sl 2 (.int .i64)) (.sl 2 (.int .i64))), 1, .bool, fun x => spec_l16Before k x.1 x.2⟩
theorem spec_l16Before_l0_ok (k : Nat) : LoopOK (mkEnv ti [] (lk []) pins0 pinB0) (spec_l16Before_O k) (rdC (mkEnv ti [] (lk []) pins0 pinB0) [.tmp 4] .bool) ((loopsOf (codeOf Tryz.f141)).getD 0 .skip) (fun σ kx => spec_l16Before_l0_h.get σ fun x => spec_l16Before_l0_F k k x kx) := by
  refine ⟨spec_l16Before_l0_h, [(0, spec_l16Before_l0_x0)], fun n x kx => spec_l16Before_l0_F k n x kx, k, by kernel_rfl, by kernel_rfl, fun x kx => by kernel_rfl, ?_, fun σ kx => rfl⟩
  rintro n ⟨⟨a0, b1, i5, ⟨⟩⟩, ⟨⟩, ⟨⟩⟩ kx
  kernel_rfl
theorem ok_spec_l16Before (k : Nat) : FnOK Tryz.prog 141 (fe_spec_l16Before k) := by
  refine closed_ok (tab := []) (l := []) ti_ok ti_ht mix (List.forall_mem_nil _) (List.forall_mem_nil _) ⟨⟨Tryz.f141, (codeOf Tryz.f141), [.tmp 4], (spec_l16Before_O k), by kernel_rfl, by kernel_rfl, by kernel_rfl, by kernel_rfl, rfl, by decide, ⟨by kernel_rfl, ?_, ?_⟩, ?_⟩⟩
  · refine loops_of (n := 1) (by kernel_rfl) fun i hi => ?_
    match i, hi with
    | 0, _ => exact loop_of (by kernel_rfl) (spec_l16Before_l0_ok k)
    | n + 1, hi => omega
  · exact no_cuts (by kernel_rfl)
  · rintro ⟨a0, b1⟩
    kernel_rfl
/- 99 loop.example/g01005/spec.l20Ok -/
def spec_l20Ok_l1 (k : Nat) : Nat → (List Int × List (List Int)) → Int → Int → ((List Int × List (List Int)) → Int → Option Bool) → Option Bool
  | 0, _, _, _, _ => none
  | n + 1, t0, i3, k4, e_2 => (if 0 ≤ i3 then (t0.2[i3.toNat]?).bind fun y_6 => (if (decide (k4 < (List.length y_6 : Int))) = true then (if 0 ≤ i3 then (t0.2[i3.toNat]?).bind fun y_7 => (if 0 ≤ k4 then (y_7[k4.toNat]?).bind fun y_8 => (spec_l00In y_8 0 3).bind fun r_9 => (if (!r_9) = true then some false else spec_l20Ok_l1 k n t0 i3 (w_i64 (k4 + 1)) e_2) else none) else none) else e_2 t0 i3) else none)
def spec_l20Ok_l0 (k : Nat) : Nat → (List Int × List (List Int)) → Int → (Option Bool) → Option Bool
  | 0, _, _, _ => none
  | n + 1, t0, i3, e_0 => (if (decide (i3 < (List.length t0.2 : Int))) = true then (if 0 ≤ i3 then (t0.2[i3.toNat]?).bind fun y_2 => (if (!(decide ((List.length y_2 : Int) = (List.length t0.1 : Int)))) = true then some false else (if (decide (0 < i3)) = true then (if 0 ≤ (w_i64 (i3 - 1)) then (t0.2[(w_i64 (i3 - 1)).toNat]?).bind fun y_3 => (if 0 ≤ i3 then (t0.2[i3.toNat]?).bind fun y_4 => (spec_l16Before k y_3 y_4).bind fun r_5 => (if (!r_5) = true then some false else spec_l20Ok_l1 k k t0 i3 0 (fun t_6 i_7 => spec_l20Ok_l0 k n t_6 (w_i64 (i_7 + 1)) e_0)) else none) else none) else spec_l20Ok_l1 k k t0 i3 0 (fun t_8 i_9 => spec_l20Ok_l0 k n t_8 (w_i64 (i_9 + 1)) e_0))) else none) else e_0)
def spec_l20Ok (k : Nat) (t0 : List Int × List (List Int)) : Option Bool := (spec_l00Rises k t0.1 0 7).bind fun r_1 => (if (!r_1) = true then some false else (if (decide (24 < (List.length t0.2 : Int))) = true then some false else spec_l20Ok_l0 k k t0 0 (some true)))
def spec_l20Ok_l1_h : Head := ⟨[(0, (.val (.ptr (.st (.pr (.sl 2 (.int .i64)) (.sl 25 (.sl 2 (.int .i64)))))))), (3, (.val (.int .i64))), (4, (.val (.int .i64)))], [], []⟩
def spec_l20Ok_l1_x2 : Head := ⟨[(0, (.val (.ptr (.st (.pr (.sl 2 (.int .i64)) (.sl 25 (.sl 2 (.int .i64)))))))), (3, (.val (.int .i64)))], [], []⟩
def spec_l20Ok_l1_F (k n : Nat) (x : spec_l20Ok_l1_h.T) (kx : Nat → St → Option Bool) : Option Bool := spec_l20Ok_l1 k n x.1.1 x.1.2.1 x.1.2.2.1 (fun (t0 : List Int × List (List Int)) (i3 : Int) => kx 2 (spec_l20Ok_l1_x2.fill ((t0, i3, ()), (), ())))
def spec_l20Ok_l0_h : Head := ⟨[(0, (.val (.ptr (.st (.pr (.sl 2 (.int .i64)) (.sl 25 (.sl 2 (.int .i64)))))))), (3, (.val (.int .i64)))], [], []⟩
def spec_l20Ok_l0_x0 : Head := ⟨[], [], []⟩
def spec_l20Ok_l0_F (k n : Nat) (x : spec_l20Ok_l0_h.T) (kx : Nat → St → Option Bool) : Option Bool := spec_l20Ok_l0 k n x.1.1 x.1.2.1 (kx 0 (spec_l20Ok_l0_x0.fill ((), (), ())))
def spec_l20Ok_O (k : Nat) : Oracles Bool := ⟨fun n => bif Nat.beq n 9 then some (fun σ kx => spec_l20Ok_l1_h.get σ fun x => spec_l20Ok_l1_F k k x kx) else bif Nat.beq n 4 then some (fun σ kx => spec_l20Ok_l0_h.get σ fun x => spec_l20Ok_l0_F k k x kx) else none, fun _ => none⟩
def fe_spec_l20Ok (k : Nat) : FE := ⟨(.ptr (.st (.pr (.sl 2 (.int .i64)) (.sl 25 (.sl 2 (.int .i64)))))), 1, .bool, fun x => spec_l20Ok k x⟩
theorem spec_l20Ok_l1_ok (k : Nat) : LoopOK (mkEnv ti [(140, fe_spec_l00Rises k), (141, fe_spec_l16Before k), (97, fe_spec_l00In)] (lk []) pins0 pinB0) (spec_l20Ok_O k) (rdC (mkEnv ti [(140, fe_spec_l00Rises k), (141, fe_spec_l16Before k), (97, fe_spec_l00In)] (lk []) pins0 pinB0) [.tmp 2] .bool) ((loopsOf (codeOf Tryz.f99)).getD 1 .skip) (fun σ kx => spec_l20Ok_l1_h.get σ fun x => spec_l20Ok_l1_F k k x kx) := by
  refine ⟨spec_l20Ok_l1_h, [(2, spec_l20Ok_l1_x2)], fun n x kx => spec_l20Ok_l1_F k n x kx, k, by kernel_rfl, by kernel_rfl, fun x kx => by kernel_rfl, ?_, fun σ kx => rfl⟩
  rintro n ⟨⟨t0, i3, k4, ⟨⟩⟩, ⟨⟩, ⟨⟩⟩ kx
  kernel_rfl
theorem spec_l20Ok_l0_ok (k : Nat) : LoopOK (mkEnv ti [(140, fe_spec_l00Rises k), (141, fe_spec_l16Before k), (97, fe_spec_l00In)] (lk []) pins0 pinB0) (spec_l20Ok_O k) (rdC (mkEnv ti [(140, fe_spec_l00Rises k), (141, fe_spec_l16Before k), (97, fe_spec_l00In)] (lk []) pins0 pinB0) [.tmp 2] .bool) ((loopsOf (codeOf Tryz.f99)).getD 0 .skip) (fun σ kx => spec_l20Ok_l0_h.get σ fun x => spec_l20Ok_l0_F k k x kx) := by
  refine ⟨spec_l20Ok_l0_h, [(0, spec_l20Ok_l0_x0)], fun n x kx => spec_l20Ok_l0_F k n x kx, k, by kernel_rfl, by kernel_rfl, fun x kx => by kernel_rfl, ?_, fun σ kx => rfl⟩
  rintro n ⟨⟨t0, i3, ⟨⟩⟩, ⟨⟩, ⟨⟩⟩ kx
  kernel_rfl
theorem ok_spec_l20Ok (k : Nat) : FnOK Tryz.prog 99 (fe_spec_l20Ok k) := by
  refine closed_ok (tab := [(140, fe_spec_l00Rises k), (141, fe_spec_l16Before k), (97, fe_spec_l00In)]) (l := []) ti_ok ti_ht mix (List.forall_mem_cons.2 ⟨ok_spec_l00Rises k, (List.forall_mem_cons.2 ⟨ok_spec_l16Before k, (List.forall_mem_cons.2 ⟨ok_spec_l00In, (List.forall_mem_nil _)⟩)⟩)⟩) (List.forall_mem_nil _) ⟨⟨Tryz.f99, (codeOf Tryz.f99), [.tmp 2], (spec_l20Ok_O k), by kernel_rfl, by kernel_rfl, by kernel_rfl, by kernel_rfl, rfl, by decide, ⟨by kernel_rfl, ?_, ?_⟩, ?_⟩⟩
  · refine loops_of (n := 2) (by kernel_rfl) fun i hi => ?_
    match i, hi with
    | 0, _ => exact loop_of (by kernel_rfl) (spec_l20Ok_l0_ok k)
    | 1, _ => exact loop_of (by kernel_rfl) (spec_l20Ok_l1_ok k)
    | n + 2, hi => omega
  · exact no_cuts (by kernel_rfl)
  · rintro t0
    kernel_rfl
/- 48 loop.example/g01005/spec.l20List -/
def spec_l20List_l0 (k : Nat) : Nat → (List (List Int × List (List Int))) → Int → ((List (List Int × List (List Int))) → Option Bool) → Option Bool
  | 0, _, _, _ => none
  | n + 1, list0, i3, e_0 => (if (decide (i3 < (List.length list0 : Int))) = true then (if 0 ≤ i3 then (list0[i3.toNat]?).bind fun y_1 => (spec_l20Ok k y_1).bind fun r_2 => (if (!r_2) = true then some false else spec_l20List_l0 k n list0 (w_i64 (i3 + 1)) e_0) else none) else e_0 list0)
def spec_l20List (k : Nat) (list0 : List (List Int × List (List Int))) : Option Bool := spec_l20List_l0 k k list0 0 (fun list_3 => some (decide ((List.length list_3 : Int) ≤ 6)))
def spec_l20List_l0_h : Head := ⟨[(0, (.val (.sl 115 (.st (.pr (.sl 2 (.int .i64)) (.sl 25 (.sl 2 (.int .i64)))))))), (3, (.val (.int .i64)))], [], []⟩
def spec_l20List_l0_x0 : Head := ⟨[(0, (.val (.sl 115 (.st (.pr (.sl 2 (.int .i64)) (.sl 25 (.sl 2 (.int .i64))))))))], [], []⟩
def spec_l20List_l0_F (k n : Nat) (x : spec_l20List_l0_h.T) (kx : Nat → St → Option Bool) : Option Bool := spec_l20List_l0 k n x.1.1 x.1.2.1 (fun (list0 : List (List Int × List (List Int))) => kx 0 (spec_l20List_l0_x0.fill ((list0, ()), (), ())))
def spec_l20List_O (k : Nat) : Oracles Bool := ⟨fun n => bif Nat.beq n 2 then some (fun σ kx => spec_l20List_l0_h.get σ fun x => spec_l20List_l0_F k k x kx) else none, fun _ => none⟩
def fe_spec_l20List (k : Nat) : FE := ⟨(.sl 115 (.st (.pr (.sl 2 (.int .i64)) (.sl 25 (.sl 2 (.int .i64)))))), 1, .bool, fun x => spec_l20List k x⟩
theorem spec_l20List_l0_ok (k : Nat) : LoopOK (mkEnv ti [(99, fe_spec_l20Ok k)] (lk []) pins0 pinB0) (spec_l20List_O k) (rdC (mkEnv ti [(99, fe_spec_l20Ok k)] (lk []) pins0 pinB0) [.tmp 2] .bool) ((loopsOf (codeOf Tryz.f48)).getD 0 .skip) (fun σ kx => spec_l20List_l0_h.get σ fun x => spec_l20List_l0_F k k x kx) := by
  refine ⟨spec_l20List_l0_h, [(0, spec_l20List_l0_x0)], fun n x kx => spec_l20List_l0_F k n x kx, k, by kernel_rfl, by kernel_rfl, fun x kx => by kernel_rfl, ?_, fun σ kx => rfl⟩
  rintro n ⟨⟨list0, i3, ⟨⟩⟩, ⟨⟩, ⟨⟩⟩ kx
  kernel_rfl
theorem ok_spec_l20List (k : Nat) : FnOK Tryz.prog 48 (fe_spec_l20List k) := by
  refine closed_ok (tab := [(99, fe_spec_l20Ok k)]) (l := []) ti_ok ti_ht mix (List.forall_mem_cons.2 ⟨ok_spec_l20Ok k, (List.forall_mem_nil _)⟩) (List.forall_mem_nil _) ⟨⟨Tryz.f48, (codeOf Tryz.f48), [.tmp 2], (spec_l20List_O k), by kernel_rfl, by kernel_rfl, by kernel_rfl, by kernel_rfl, rfl, by decide, ⟨by kernel_rfl, ?_, ?_⟩, ?_⟩⟩
  · refine loops_of (n := 1) (by kernel_rfl) fun i hi => ?_
    match i, hi with
    | 0, _ => exact loop_of (by kernel_rfl) (spec_l20List_l0_ok k)
    | n + 1, hi => omega
  · exact no_cuts (by kernel_rfl)
  · rintro list0
    kernel_rfl
/- 49 loop.example/g01005/spec.l21Ok -/
def spec_l21Ok_l1 (k : Nat) : Nat → (List (List Int) × List Int) → Int → Int → (List Int) → ((List (List Int) × List Int) → Int → Option Bool) → Option Bool
  | 0, _, _, _, _, _ => none
  | n + 1, f0, k3, i5, q_4, e_2 => (if (decide (i5 < (List.length q_4 : Int))) = true then (if 0 ≤ i5 ∧ i5.toNat < List.length q_4 then (q_4[i5.toNat]?).bind fun y_5 => (if 0 ≤ y_5 then (f0.2[y_5.toNat]?).bind fun y_6 => (if 0 ≤ k3 then (f0.2[k3.toNat]?).bind fun y_7 => (if (decide (y_7 < y_6)) = true then some false else spec_l21Ok_l1 k n f0 k3 (w_i64 (i5 + 1)) q_4 e_2) else none) else none) else none) else e_2 f0 k3)
def spec_l21Ok_l0 (k : Nat) : Nat → (List (List Int) × List Int) → Int → (Option Bool) → Option Bool
  | 0, _, _, _ => none
  | n + 1, f0, k3, e_0 => (if (decide (k3 < (List.length f0.2 : Int))) = true then (spec_l05Faces k f0.1 k3).bind fun r_3 => spec_l21Ok_l1 k k f0 k3 0 r_3 (fun f_4 k_5 => spec_l21Ok_l0 k n f_4 (w_i64 (k_5 + 1)) e_0) else e_0)
def spec_l21Ok (k : Nat) (f0 : List (List Int) × List Int) : Option Bool := (spec_l05Ok k f0.1).bind fun r_1 => (if (!r_1) = true then some false else (spec_l03Column k f0.2 (List.length f0.1 : Int) 1001).bind fun r_2 => (if (!r_2) = true then some false else spec_l21Ok_l0 k k f0 0 (some true)))
def spec_l21Ok_l1_h : Head := ⟨[(0, (.val (.ptr (.st (.pr (.st (.sl 25 (.sl 2 (.int .i64)))) (.sl 2 (.int .i64))))))), (3, (.val (.int .i64))), (4, (.ref 64000000 [])), (5, (.val (.int .i64)))], [(64000000, 2, (.int .i64), false)], []⟩
def spec_l21Ok_l1_x2 : Head := ⟨[(0, (.val (.ptr (.st (.pr (.st (.sl 25 (.sl 2 (.int .i64)))) (.sl 2 (.int .i64))))))), (3, (.val (.int .i64)))], [], []⟩
def spec_l21Ok_l1_F (k n : Nat) (x : spec_l21Ok_l1_h.T) (kx : Nat → St → Option Bool) : Option Bool := spec_l21Ok_l1 k n x.1.1 x.1.2.1 x.1.2.2.2.1 x.2.1.1 (fun (f0 : List (List Int) × List Int) (k3 : Int) => kx 2 (spec_l21Ok_l1_x2.fill ((f0, k3, ()), (), ())))
def spec_l21Ok_l0_h : Head := ⟨[(0, (.val (.ptr (.st (.pr (.st (.sl 25 (.sl 2 (.int .i64)))) (.sl 2 (.int .i64))))))), (3, (.val (.int .i64)))], [], []⟩
def spec_l21Ok_l0_x0 : Head := ⟨[], [], []⟩
def spec_l21Ok_l0_F (k n : Nat) (x : spec_l21Ok_l0_h.T) (kx : Nat → St → Option Bool) : Option Bool := spec_l21Ok_l0 k n x.1.1 x.1.2.1 (kx 0 (spec_l21Ok_l0_x0.fill ((), (), ())))
def spec_l21Ok_O (k : Nat) : Oracles Bool := ⟨fun n => bif Nat.beq n 8 then some (fun σ kx => spec_l21Ok_l1_h.get σ fun x => spec_l21Ok_l1_F k k x kx) else bif Nat.beq n 4 then some (fun σ kx => spec_l21Ok_l0_h.get σ fun x => spec_l21Ok_l0_F k k x kx) else none, fun _ => none⟩
def fe_spec_l21Ok (k : Nat) : FE := ⟨(.ptr (.st (.pr (.st (.sl 25 (.sl 2 (.int .i64)))) (.sl 2 (.int .i64))))), 1, .bool, fun x => spec_l21Ok k x⟩
theorem spec_l21Ok_l1_ok (k : Nat) : LoopOK (mkEnv ti [(91, fe_spec_l05Ok k), (98, fe_spec_l03Column k), (100, fe_spec_l05Faces k)] (lk []) pins0 pinB0) (spec_l21Ok_O k) (rdC (mkEnv ti [(91, fe_spec_l05Ok k), (98, fe_spec_l03Column k), (100, fe_spec_l05Faces k)] (lk []) pins0 pinB0) [.tmp 2] .bool) ((loopsOf (codeOf Tryz.f49)).getD 1 .skip) (fun σ kx => spec_l21Ok_l1_h.get σ fun x => spec_l21Ok_l1_F k k x kx) := by
  refine ⟨spec_l21Ok_l1_h, [(2, spec_l21Ok_l1_x2)], fun n x kx => spec_l21Ok_l1_F k n x kx, k, by kernel_rfl, by kernel_rfl, fun x kx => by kernel_rfl, ?_, fun σ kx => rfl⟩
  rintro n ⟨⟨f0, k3, ⟨⟩, i5, ⟨⟩⟩, ⟨q_4, ⟨⟩⟩, ⟨⟩⟩ kx
  kernel_rfl
theorem spec_l21Ok_l0_ok (k : Nat) : LoopOK (mkEnv ti [(91, fe_spec_l05Ok k), (98, fe_spec_l03Column k), (100, fe_spec_l05Faces k)] (lk []) pins0 pinB0) (spec_l21Ok_O k) (rdC (mkEnv ti [(91, fe_spec_l05Ok k), (98, fe_spec_l03Column k), (100, fe_spec_l05Faces k)] (lk []) pins0 pinB0) [.tmp 2] .bool) ((loopsOf (codeOf Tryz.f49)).getD 0 .skip) (fun σ kx => spec_l21Ok_l0_h.get σ fun x => spec_l21Ok_l0_F k k x kx) := by
  refine ⟨spec_l21Ok_l0_h, [(0, spec_l21Ok_l0_x0)], fun n x kx => spec_l21Ok_l0_F k n x kx, k, by kernel_rfl, by kernel_rfl, fun x kx => by kernel_rfl, ?_, fun σ kx => rfl⟩
  rintro n ⟨⟨f0, k3, ⟨⟩⟩, ⟨⟩, ⟨⟩⟩ kx
  kernel_rfl
theorem ok_spec_l21Ok (k : Nat) : FnOK Tryz.prog 49 (fe_spec_l21Ok k) := by
  refine closed_ok (tab := [(91, fe_spec_l05Ok k), (98, fe_spec_l03Column k), (100, fe_spec_l05Faces k)]) (l := []) ti_ok ti_ht mix (List.forall_mem_cons.2 ⟨ok_spec_l05Ok k, (List.forall_mem_cons.2 ⟨ok_spec_l03Column k, (List.forall_mem_cons.2 ⟨ok_spec_l05Faces k, (List.forall_mem_nil _)⟩)⟩)⟩) (List.forall_mem_nil _) ⟨⟨Tryz.f49, (codeOf Tryz.f49), [.tmp 2], (spec_l21Ok_O k), by kernel_rfl, by kernel_rfl, by kernel_rfl, by kernel_rfl, rfl, by decide, ⟨by kernel_rfl, ?_, ?_⟩, ?_⟩⟩
  · refine loops_of (n := 2) (by kernel_rfl) fun i hi => ?_
    match i, hi with
    | 0, _ => exact loop_of (by kernel_rfl) (spec_l21Ok_l0_ok k)
    | 1, _ => exact loop_of (by kernel_rfl) (spec_l21Ok_l1_ok k)
    | n + 2, hi => omega
  · exact no_cuts (by kernel_rfl)
  · rintro f0
    kernel_rfl
/- 154 loop.example/g01005/spec.l01Small -/
def spec_l01Small (c0 : Int) : Option Bool := (if (decide (97 ≤ c0)) = true then some (decide (c0 ≤ 122)) else some false)
def fe_spec_l01Small : FE := ⟨(.int .u8), 1, .bool, fun x => spec_l01Small x⟩
theorem ok_spec_l01Small : FnOK Tryz.prog 154 (fe_spec_l01Small) := by
  refine closed_ok (tab := []) (l := []) ti_ok ti_ht mix (List.forall_mem_nil _) (List.forall_mem_nil _) ⟨⟨Tryz.f154, (codeOf Tryz.f154), [.tmp 2], (LOn Bool), by kernel_rfl, by kernel_rfl, by kernel_rfl, by kernel_rfl, rfl, by decide, ⟨by kernel_rfl, ?_, ?_⟩, ?_⟩⟩
  · exact no_loops (by kernel_rfl)
  · exact no_cuts (by kernel_rfl)
  · rintro c0
    kernel_rfl
/- 155 loop.example/g01005/spec.l01Digit -/
def spec_l01Digit (c0 : Int) : Option Bool := (if (decide (48 ≤ c0)) = true then some (decide (c0 ≤ 57)) else some false)
def fe_spec_l01Digit : FE := ⟨(.int .u8), 1, .bool, fun x => spec_l01Digit x⟩
theorem ok_spec_l01Digit : FnOK Tryz.prog 155 (fe_spec_l01Digit) := by
  refine closed_ok (tab := []) (l := []) ti_ok ti_ht mix (List.forall_mem_nil _) (List.forall_mem_nil _) ⟨⟨Tryz.f155, (codeOf Tryz.f155), [.tmp 2], (LOn Bool), by kernel_rfl, by kernel_rfl, by kernel_rfl, by kernel_rfl, rfl, by decide, ⟨by kernel_rfl, ?_, ?_⟩, ?_⟩⟩
  · exact no_loops (by kernel_rfl)
  · exact no_cuts (by kernel_rfl)
  · rintro c0
    kernel_rfl
/- 142 loop.example/g01005/spec.l01Name -/
def spec_l01Name_l0 (k : Nat) : Nat → (List UInt8) → Int → (Option Bool) → Option Bool
  | 0, _, _, _ => none
  | n + 1, s0, i3, e_0 => (if (decide (i3 < (List.length s0 : Int))) = true then (if 0 ≤ i3 then (s0[i3.toNat]?).bind fun b_3 => (spec_l01Small (z_u8 b_3)).bind fun r_4 => (if (!r_4) = true then (if 0 ≤ i3 then (s0[i3.toNat]?).bind fun b_5 => (spec_l01Digit (z_u8 b_5)).bind fun r_6 => (if (!r_6) = true then some false else spec_l01Name_l0 k n s0 (w_i64 (i3 + 1)) e_0) else none) else spec_l01Name_l0 k n s0 (w_i64 (i3 + 1)) e_0) else none) else e_0)
def spec_l01Name (k : Nat) (s0 : List UInt8) : Option Bool := (if (decide (s0 = [])) = true then some false else (if (decide (10 < (List.length s0 : Int))) = true then some false else (s0[0]?).bind fun b_1 => (spec_l01Small (z_u8 b_1)).bind fun r_2 => (if (!r_2) = true then some false else spec_l01Name_l0 k k s0 0 (some true))))
def spec_l01Name_l0_h : Head := ⟨[(0, (.val .str)), (3, (.val (.int .i64)))], [], []⟩
def spec_l01Name_l0_x0 : Head := ⟨[], [], []⟩
def spec_l01Name_l0_F (k n : Nat) (x : spec_l01Name_l0_h.T) (kx : Nat → St → Option Bool) : Option Bool := spec_l01Name_l0 k n x.1.1 x.1.2.1 (kx 0 (spec_l01Name_l0_x0.fill ((), (), ())))
def spec_l01Name_O (k : Nat) : Oracles Bool := ⟨fun n => bif Nat.beq n 4 then some (fun σ kx => spec_l01Name_l0_h.get σ fun x => spec_l01Name_l0_F k k x kx) else none, fun _ => none⟩
def fe_spec_l01Name (k : Nat) : FE := ⟨.str, 1, .bool, fun x => spec_l01Name k x⟩
theorem spec_l01Name_l0_ok (k : Nat) : LoopOK (mkEnv ti [(154, fe_spec_l01Small), (155, fe_spec_l01Digit)] (lk []) pins0 pinB0) (spec_l01Name_O k) (rdC (mkEnv ti [(154, fe_spec_l01Small), (155, fe_spec_l01Digit)] (lk []) pins0 pinB0) [.tmp 2] .bool) ((loopsOf (codeOf Tryz.f142)).getD 0 .skip) (fun σ kx => spec_l01Name_l0_h.get σ fun x => spec_l01Name_l0_F k k x kx) := by
  refine ⟨spec_l01Name_l0_h, [(0, spec_l01Name_l0_x0)], fun n x kx => spec_l01Name_l0_F k n x kx, k, by kernel_rfl, by kernel_rfl, fun x kx => by kernel_rfl, ?_, fun σ kx => rfl⟩
  rintro n ⟨⟨s0, i3, ⟨⟩⟩, ⟨⟩, ⟨⟩⟩ kx
  kernel_rfl
theorem ok_spec_l01Name (k : Nat) : FnOK Tryz.prog 142 (fe_spec_l01Name k) := by
  refine closed_ok (tab := [(154, fe_spec_l01Small), (155, fe_spec_l01Digit)]) (l := []) ti_ok ti_ht mix (List.forall_mem_cons.2 ⟨ok_spec_l01Small, (List.forall_mem_cons.2 ⟨ok_spec_l01Digit, (List.forall_mem_nil _)⟩)⟩) (List.forall_mem_nil _) ⟨⟨Tryz.f142, (codeOf Tryz.f142), [.tmp 2], (spec_l01Name_O k), by kernel_rfl, by kernel_rfl, by kernel_rfl, by kernel_rfl, rfl, by decide, ⟨by kernel_rfl, ?_, ?_⟩, ?_⟩⟩
  · refine loops_of (n := 1) (by kernel_rfl) fun i hi => ?_
    match i, hi with
    | 0, _ => exact loop_of (by kernel_rfl) (spec_l01Name_l0_ok k)
    | n + 1, hi => omega
  · exact no_cuts (by kernel_rfl)
  · rintro s0
    kernel_rfl
/- 143 loop.example/g01005/spec.l28Find -/
def spec_l28Find_l0 (k : Nat) : Nat → (List (List UInt8 × List (List UInt8) × Int × Int)) → (List UInt8) → Int → (Option Int) → Option Int
  | 0, _, _, _, _ => none
  | n + 1, list0, name1, i5, e_0 => (if (decide (i5 < (List.length list0 : Int))) = true then (if 0 ≤ i5 then (list0[i5.toNat]?).bind fun y_1 => (if (decide (y_1.1 = name1)) = true then some i5 else spec_l28Find_l0 k n list0 name1 (w_i64 (i5 + 1)) e_0) else none) else e_0)
def spec_l28Find (k : Nat) (list0 : List (List UInt8 × List (List UInt8) × Int × Int)) (name1 : List UInt8) : Option Int := spec_l28Find_l0 k k list0 name1 0 (some (-1))
def spec_l28Find_l0_h : Head := ⟨[(0, (.val (.sl 117 (.st (.pr .str (.pr (.sl 9 .str) (.pr (.int .i64) (.int .i64)))))))), (1, (.val .str)), (5, (.val (.int .i64)))], [], []⟩
def spec_l28Find_l0_x0 : Head := ⟨[], [], []⟩
def spec_l28Find_l0_F (k n : Nat) (x : spec_l28Find_l0_h.T) (kx : Nat → St → Option Int) : Option Int := spec_l28Find_l0 k n x.1.1 x.1.2.1 x.1.2.2.1 (kx 0 (spec_l28Find_l0_x0.fill ((), (), ())))
def spec_l28Find_O (k : Nat) : Oracles Int := ⟨fun n => bif Nat.beq n 2 then some (fun σ kx => spec_l28Find_l0_h.get σ fun x => spec_l28Find_l0_F k k x kx) else none, fun _ => none⟩
def fe_spec_l28Find (k : Nat) : FE := ⟨(.pr (.sl 117 (.st (.pr .str (.pr (.sl 9 .str) (.pr (.int .i64) (.int .i64)))))) .str), 1, (.int .i64), fun x => spec_l28Find k x.1 x.2⟩
theorem spec_l28Find_l0_ok (k : Nat) : LoopOK (mkEnv ti [] (lk []) pins0 pinB0) (spec_l28Find_O k) (rdC (mkEnv ti [] (lk []) pins0 pinB0) [.tmp 4] (.int .i64)) ((loopsOf (codeOf Tryz.f143)).getD 0 .skip) (fun σ kx => spec_l28Find_l0_h.get σ fun x => spec_l28Find_l0_F k k x kx) := by
  refine ⟨spec_l28Find_l0_h, [(0, spec_l28Find_l0_x0)], fun n x kx => spec_l28Find_l0_F k n x kx, k, by kernel_rfl, by kernel_rfl, fun x kx => by kernel_rfl, ?_, fun σ kx => rfl⟩
  rintro n ⟨⟨list0, name1, i5, ⟨⟩⟩, ⟨⟩, ⟨⟩⟩ kx
  kernel_rfl
theorem ok_spec_l28Find (k : Nat) : FnOK Tryz.prog 143 (fe_spec_l28Find k) := by
  refine closed_ok (tab := []) (l := []) ti_ok ti_ht mix (List.forall_mem_nil _) (List.forall_mem_nil _) ⟨⟨Tryz.f143, (codeOf Tryz.f143), [.tmp 4], (spec_l28Find_O k), by kernel_rfl, by kernel_rfl, by kernel_rfl, by kernel_rfl, rfl, by decide, ⟨by kernel_rfl, ?_, ?_⟩, ?_⟩⟩
  · refine loops_of (n := 1) (by kernel_rfl) fun i hi => ?_
    match i, hi with
    | 0, _ => exact loop_of (by kernel_rfl) (spec_l28Find_l0_ok k)
    | n + 1, hi => omega
  · exact no_cuts (by kernel_rfl)
  · rintro ⟨list0, name1⟩
    kernel_rfl
/- 101 loop.example/g01005/spec.l28Form -/
def spec_l28Form_l1 (k : Nat) : Nat → (List (List UInt8 × List (List UInt8) × Int × Int)) → Int → Int → (List UInt8 × List (List UInt8) × Int × Int) → ((List (List UInt8 × List (List UInt8) × Int × Int)) → Int → Option Bool) → Option Bool
  | 0, _, _, _, _, _ => none
  | n + 1, list0, i3, k5, v_4, e_2 => (if (decide (k5 < (List.length v_4.2.1 : Int))) = true then (if 0 ≤ k5 then (v_4.2.1[k5.toNat]?).bind fun y_6 => (spec_l28Find k list0 y_6).bind fun r_7 => (if (decide (r_7 < 0)) = true then some false else (if (decide (0 < k5)) = true then (if 0 ≤ (w_i64 (k5 - 1)) then (v_4.2.1[(w_i64 (k5 - 1)).toNat]?).bind fun y_8 => (if 0 ≤ k5 then (v_4.2.1[k5.toNat]?).bind fun y_9 => (if (!(Op.bytesLess y_8 y_9)) = true then some false else spec_l28Form_l1 k n list0 i3 (w_i64 (k5 + 1)) v_4 e_2) else none) else none) else spec_l28Form_l1 k n list0 i3 (w_i64 (k5 + 1)) v_4 e_2)) else none) else e_2 list0 i3)
def spec_l28Form_l0 (k : Nat) : Nat → (List (List UInt8 × List (List UInt8) × Int × Int)) → Int → ((List (List UInt8 × List (List UInt8) × Int × Int)) → Option Bool) → Option Bool
  | 0, _, _, _ => none
  | n + 1, list0, i3, e_0 => (if (decide (i3 < (List.length list0 : Int))) = true then (if 0 ≤ i3 then (list0[i3.toNat]?).bind fun y_1 => (spec_l01Name k y_1.1).bind fun r_2 => (if (!r_2) = true then some false else (if (decide (0 < i3)) = true then (if 0 ≤ (w_i64 (i3 - 1)) then (list0[(w_i64 (i3 - 1)).toNat]?).bind fun y_3 => (if (!(Op.bytesLess y_3.1 y_1.1)) = true then some false else (spec_l00In y_1.2.2.1 0 1000000).bind fun r_4 => (if (!r_4) = true then some false else (spec_l00In y_1.2.2.2 0 1000).bind fun r_5 => (if (!r_5) = true then some false else spec_l28Form_l1 k k list0 i3 0 y_1 (fun list_6 i_7 => spec_l28Form_l0 k n list_6 (w_i64 (i_7 + 1)) e_0)))) else none) else (spec_l00In y_1.2.2.1 0 1000000).bind fun r_8 => (if (!r_8) = true then some false else (spec_l00In y_1.2.2.2 0 1000).bind fun r_9 => (if (!r_9) = true then some false else spec_l28Form_l1 k k list0 i3 0 y_1 (fun list_10 i_11 => spec_l28Form_l0 k n list_10 (w_i64 (i_11 + 1)) e_0))))) else none) else e_0 list0)
def spec_l28Form (k : Nat) (list0 : List (List UInt8 × List (List UInt8) × Int × Int)) : Option Bool := spec_l28Form_l0 k k list0 0 (fun list_12 => some (decide ((List.length list_12 : Int) ≤ 16)))
def spec_l28Form_l1_h : Head := ⟨[(0, (.val (.sl 117 (.st (.pr .str (.pr (.sl 9 .str) (.pr (.int .i64) (.int .i64)))))))), (3, (.val (.int .i64))), (4, (.bp 4 [] 0)), (5, (.val (.int .i64)))], [], [(4, 117, (.val (.st (.pr .str (.pr (.sl 9 .str) (.pr (.int .i64) (.int .i64)))))))]⟩
def spec_l28Form_l1_x2 : Head := ⟨[(0, (.val (.sl 117 (.st (.pr .str (.pr (.sl 9 .str) (.pr (.int .i64) (.int .i64)))))))), (3, (.val (.int .i64)))], [], []⟩
def spec_l28Form_l1_F (k n : Nat) (x : spec_l28Form_l1_h.T) (kx : Nat → St → Option Bool) : Option Bool := spec_l28Form_l1 k n x.1.1 x.1.2.1 x.1.2.2.2.1 x.2.2.1 (fun (list0 : List (List UInt8 × List (List UInt8) × Int × Int)) (i3 : Int) => kx 2 (spec_l28Form_l1_x2.fill ((list0, i3, ()), (), ())))
def spec_l28Form_l0_h : Head := ⟨[(0, (.val (.sl 117 (.st (.pr .str (.pr (.sl 9 .str) (.pr (.int .i64) (.int .i64)))))))), (3, (.val (.int .i64)))], [], []⟩
def spec_l28Form_l0_x0 : Head := ⟨[(0, (.val (.sl 117 (.st (.pr .str (.pr (.sl 9 .str) (.pr (.int .i64) (.int .i64))))))))], [], []⟩
def spec_l28Form_l0_F (k n : Nat) (x : spec_l28Form_l0_h.T) (kx : Nat → St → Option Bool) : Option Bool := spec_l28Form_l0 k n x.1.1 x.1.2.1 (fun (list0 : List (List UInt8 × List (List UInt8) × Int × Int)) => kx 0 (spec_l28Form_l0_x0.fill ((list0, ()), (), ())))
def spec_l28Form_O (k : Nat) : Oracles Bool := ⟨fun n => bif Nat.beq n 8 then some (fun σ kx => spec_l28Form_l1_h.get σ fun x => spec_l28Form_l1_F k k x kx) else bif Nat.beq n 2 then some (fun σ kx => spec_l28Form_l0_h.get σ fun x => spec_l28Form_l0_F k k x kx) else none, fun _ => none⟩
def fe_spec_l28Form (k : Nat) : FE := ⟨(.sl 117 (.st (.pr .str (.pr (.sl 9 .str) (.pr (.int .i64) (.int .i64)))))), 1, .bool, fun x => spec_l28Form k x⟩
theorem spec_l28Form_l1_ok (k : Nat) : LoopOK (mkEnv ti [(142, fe_spec_l01Name k), (97, fe_spec_l00In), (143, fe_spec_l28Find k)] (lk []) pins0 pinB0) (spec_l28Form_O k) (rdC (mkEnv ti [(142, fe_spec_l01Name k), (97, fe_spec_l00In), (143, fe_spec_l28Find k)] (lk []) pins0 pinB0) [.tmp 2] .bool) ((loopsOf (codeOf Tryz.f101)).getD 1 .skip) (fun σ kx => spec_l28Form_l1_h.get σ fun x => spec_l28Form_l1_F k k x kx) := by
  refine ⟨spec_l28Form_l1_h, [(2, spec_l28Form_l1_x2)], fun n x kx => spec_l28Form_l1_F k n x kx, k, by kernel_rfl, by kernel_rfl, fun x kx => by kernel_rfl, ?_, fun σ kx => rfl⟩
  rintro n ⟨⟨list0, i3, ⟨⟩, k5, ⟨⟩⟩, ⟨⟩, ⟨v_4, ⟨⟩⟩⟩ kx
  kernel_rfl
theorem spec_l28Form_l0_ok (k : Nat) : LoopOK (mkEnv ti [(142, fe_spec_l01Name k), (97, fe_spec_l00In), (143, fe_spec_l28Find k)] (lk []) pins0 pinB0) (spec_l28Form_O k) (rdC (mkEnv ti [(142, fe_spec_l01Name k), (97, fe_spec_l00In), (143, fe_spec_l28Find k)] (lk []) pins0 pinB0) [.tmp 2] .bool) ((loopsOf (codeOf Tryz.f101)).getD 0 .skip) (fun σ kx => spec_l28Form_l0_h.get σ fun x => spec_l28Form_l0_F k k x kx) := by
  refine ⟨spec_l28Form_l0_h, [(0, spec_l28Form_l0_x0)], fun n x kx => spec_l28Form_l0_F k n x kx, k, by kernel_rfl, by kernel_rfl, fun x kx => by kernel_rfl, ?_, fun σ kx => rfl⟩
  rintro n ⟨⟨list0, i3, ⟨⟩⟩, ⟨⟩, ⟨⟩⟩ kx
  kernel_rfl
theorem ok_spec_l28Form (k : Nat) : FnOK Tryz.prog 101 (fe_spec_l28Form k) := by
  refine closed_ok (tab := [(142, fe_spec_l01Name k), (97, fe_spec_l00In), (143, fe_spec_l28Find k)]) (l := []) ti_ok ti_ht mix (List.forall_mem_cons.2 ⟨ok_spec_l01Name k, (List.forall_mem_cons.2 ⟨ok_spec_l00In, (List.forall_mem_cons.2 ⟨ok_spec_l28Find k, (List.forall_mem_nil _)⟩)⟩)⟩) (List.forall_mem_nil _) ⟨⟨Tryz.f101, (codeOf Tryz.f101), [.tmp 2], (spec_l28Form_O k), by kernel_rfl, by kernel_rfl, by kernel_rfl, by kernel_rfl, rfl, by decide, ⟨by kernel_rfl, ?_, ?_⟩, ?_⟩⟩
  · refine loops_of (n := 2) (by kernel_rfl) fun i hi => ?_
    match i, hi with
    | 0, _ => exact loop_of (by kernel_rfl) (spec_l28Form_l0_ok k)
    | 1, _ => exact loop_of (by kernel_rfl) (spec_l28Form_l1_ok k)
    | n + 2, hi => omega
  · exact no_cuts (by kernel_rfl)
  · rintro list0
    kernel_rfl
/- 102 loop.example/g01005/spec.l28Order -/
def spec_l28Order_l2 (k : Nat) : Nat → (List (List UInt8 × List (List UInt8) × Int × Int)) → Int → Int → Bool → Int → (List Int) → (List Bool) → ((List (List UInt8 × List (List UInt8) × Int × Int)) → Int → Int → Bool → (List Int) → (List Bool) → Option (List Int)) → Option (List Int)
  | 0, _, _, _, _, _, _, _, _ => none
  | n + 1, list0, next5, i6, ready7, k8, q_6, q_7, e_4 => (if 0 ≤ i6 then (list0[i6.toNat]?).bind fun y_8 => (if (decide (k8 < (List.length y_8.2.1 : Int))) = true then (if ready7 = true then (if 0 ≤ i6 then (list0[i6.toNat]?).bind fun y_9 => (if 0 ≤ k8 then (y_9.2.1[k8.toNat]?).bind fun y_10 => (spec_l28Find k list0 y_10).bind fun r_11 => (if 0 ≤ r_11 ∧ r_11.toNat < List.length q_7 then (q_7[r_11.toNat]?).bind fun y_12 => spec_l28Order_l2 k n list0 next5 i6 y_12 (w_i64 (k8 + 1)) q_6 q_7 e_4 else none) else none) else none) else e_4 list0 next5 i6 ready7 q_6 q_7) else e_4 list0 next5 i6 ready7 q_6 q_7) else none)
def spec_l28Order_l1 (k : Nat) : Nat → (List (List UInt8 × List (List UInt8) × Int × Int)) → Int → Int → (List Int) → (List Bool) → ((List (List UInt8 × List (List UInt8) × Int × Int)) → Int → (List Int) → (List Bool) → Option (List Int)) → Option (List Int)
  | 0, _, _, _, _, _, _ => none
  | n + 1, list0, next5, i6, q_3, q_4, e_2 => (if (decide (i6 < (List.length list0 : Int))) = true then (if (decide (next5 < 0)) = true then (if 0 ≤ i6 ∧ i6.toNat < List.length q_4 then (q_4[i6.toNat]?).bind fun y_5 => spec_l28Order_l2 k k list0 next5 i6 (!y_5) 0 q_3 q_4 (fun list_6 next_7 i_8 ready_9 q_10 q_11 => (if ready_9 = true then spec_l28Order_l1 k n list_6 i_8 (w_i64 (i_8 + 1)) q_10 q_11 e_2 else spec_l28Order_l1 k n list_6 next_7 (w_i64 (i_8 + 1)) q_10 q_11 e_2)) else none) else e_2 list0 next5 q_3 q_4) else e_2 list0 next5 q_3 q_4)
def spec_l28Order_l0 (k : Nat) : Nat → (List (List UInt8 × List (List UInt8) × Int × Int)) → (List Int) → (List Bool) → ((List Int) → Option (List Int)) → Option (List Int)
  | 0, _, _, _, _ => none
  | n + 1, list0, q_1, q_2, e_0 => (if (decide ((List.length q_1 : Int) < (List.length list0 : Int))) = true then spec_l28Order_l1 k k list0 (-1) 0 q_1 q_2 (fun list_3 next_4 q_5 q_6 => (if (decide (next_4 < 0)) = true then some q_5 else (if 0 ≤ next_4 ∧ next_4.toNat < List.length q_6 then (q_6[next_4.toNat]?).bind fun y_7 => (q_6[next_4.toNat]?).bind fun y_8 => (if (q_5.length + [next_4].length) * 8 ≤ LIM then spec_l28Order_l0 k n list_3 (q_5 ++ [next_4]) (q_6.set next_4.toNat true) e_0 else none) else none))) else e_0 q_1)
def spec_l28Order (k : Nat) (list0 : List (List UInt8 × List (List UInt8) × Int × Int)) : Option (List Int) := (if 0 ≤ (List.length list0 : Int) ∧ (List.length list0 : Int) ≤ (List.length list0 : Int) ∧ (List.length list0 : Int) * 1 ≤ LIM then spec_l28Order_l0 k k list0 [] (List.replicate (List.length list0) false) (fun q_9 => some q_9) else none)
def spec_l28Order_l2_h : Head := ⟨[(0, (.val (.sl 117 (.st (.pr .str (.pr (.sl 9 .str) (.pr (.int .i64) (.int .i64)))))))), (3, (.ref 64000000 [])), (4, (.ref 64000001 [])), (5, (.val (.int .i64))), (6, (.val (.int .i64))), (7, (.val .bool)), (8, (.val (.int .i64)))], [(64000000, 3, (.int .i64), false), (64000001, 4, .bool, false)], []⟩
def spec_l28Order_l2_x4 : Head := ⟨[(0, (.val (.sl 117 (.st (.pr .str (.pr (.sl 9 .str) (.pr (.int .i64) (.int .i64)))))))), (3, (.ref 64000000 [])), (4, (.ref 64000001 [])), (5, (.val (.int .i64))), (6, (.val (.int .i64))), (7, (.val .bool))], [(64000000, 3, (.int .i64), false), (64000001, 4, .bool, false)], []⟩
def spec_l28Order_l2_F (k n : Nat) (x : spec_l28Order_l2_h.T) (kx : Nat → St → Option (List Int)) : Option (List Int) := spec_l28Order_l2 k n x.1.1 x.1.2.2.2.1 x.1.2.2.2.2.1 x.1.2.2.2.2.2.1 x.1.2.2.2.2.2.2.1 x.2.1.1 x.2.1.2.1 (fun (list0 : List (List UInt8 × List (List UInt8) × Int × Int)) (next5 : Int) (i6 : Int) (ready7 : Bool) (q_13 : List Int) (q_14 : List Bool) => kx 4 (spec_l28Order_l2_x4.fill ((list0, (), (), next5, i6, ready7, ()), (q_13, q_14, ()), ())))
def spec_l28Order_l1_h : Head := ⟨[(0, (.val (.sl 117 (.st (.pr .str (.pr (.sl 9 .str) (.pr (.int .i64) (.int .i64)))))))), (3, (.ref 64000000 [])), (4, (.ref 64000001 [])), (5, (.val (.int .i64))), (6, (.val (.int .i64)))], [(64000000, 3, (.int .i64), false), (64000001, 4, .bool, false)], []⟩
def spec_l28Order_l1_x2 : Head := ⟨[(0, (.val (.sl 117 (.st (.pr .str (.pr (.sl 9 .str) (.pr (.int .i64) (.int .i64)))))))), (3, (.ref 64000000 [])), (4, (.ref 64000001 [])), (5, (.val (.int .i64)))], [(64000000, 3, (.int .i64), false), (64000001, 4, .bool, false)], []⟩
def spec_l28Order_l1_F (k n : Nat) (x : spec_l28Order_l1_h.T) (kx : Nat → St → Option (List Int)) : Option (List Int) := spec_l28Order_l1 k n x.1.1 x.1.2.2.2.1 x.1.2.2.2.2.1 x.2.1.1 x.2.1.2.1 (fun (list0 : List (List UInt8 × List (List UInt8) × Int × Int)) (next5 : Int) (q_19 : List Int) (q_20 : List Bool) => kx 2 (spec_l28Order_l1_x2.fill ((list0, (), (), next5, ()), (q_19, q_20, ()), ())))
def spec_l28Order_l0_h : Head := ⟨[(0, (.val (.sl 117 (.st (.pr .str (.pr (.sl 9 .str) (.pr (.int .i64) (.int .i64)))))))), (3, (.ref 64000000 [])), (4, (.ref 64000001 []))], [(64000000, 3, (.int .i64), false), (64000001, 4, .bool, false)], []⟩
def spec_l28Order_l0_x0 : Head := ⟨[(3, (.ref 64000000 []))], [(64000000, 3, (.int .i64), false)], []⟩
def spec_l28Order_l0_F (k n : Nat) (x : spec_l28Order_l0_h.T) (kx : Nat → St → Option (List Int)) : Option (List Int) := spec_l28Order_l0 k n x.1.1 x.2.1.1 x.2.1.2.1 (fun (q_18 : List Int) => kx 0 (spec_l28Order_l0_x0.fill (((), ()), (q_18, ()), ())))
def spec_l28Order_O (k : Nat) : Oracles (List Int) := ⟨fun n => bif Nat.beq n 10 then some (fun σ kx => spec_l28Order_l2_h.get σ fun x => spec_l28Order_l2_F k k x kx) else bif Nat.beq n 6 then some (fun σ kx => spec_l28Order_l1_h.get σ fun x => spec_l28Order_l1_F k k x kx) else bif Nat.beq n 3 then some (fun σ kx => spec_l28Order_l0_h.get σ fun x => spec_l28Order_l0_F k k x kx) else none, fun _ => none⟩
def fe_spec_l28Order (k : Nat) : FE := ⟨(.sl 117 (.st (.pr .str (.pr (.sl 9 .str) (.pr (.int .i64) (.int .i64)))))), 1, (.sl 3 (.int .i64)), fun x => spec_l28Order k x⟩
theorem spec_l28Order_l2_ok (k : Nat) : LoopOK (mkEnv ti [(143, fe_spec_l28Find k)] (lk []) pins0 pinB0) (spec_l28Order_O k) (rdC (mkEnv ti [(143, fe_spec_l28Find k)] (lk []) pins0 pinB0) [.tmp 2] (.sl 3 (.int .i64))) ((loopsOf (codeOf Tryz.f102)).getD 2 .skip) (fun σ kx => spec_l28Order_l2_h.get σ fun x => spec_l28Order_l2_F k k x kx) := by
  refine ⟨spec_l28Order_l2_h, [(4, spec_l28Order_l2_x4)], fun n x kx => spec_l28Order_l2_F k n x kx, k, by kernel_rfl, by kernel_rfl, fun x kx => by kernel_rfl, ?_, fun σ kx => rfl⟩
  rintro n ⟨⟨list0, ⟨⟩, ⟨⟩, next5, i6, ready7, k8, ⟨⟩⟩, ⟨q_6, q_7, ⟨⟩⟩, ⟨⟩⟩ kx
  kernel_rfl
theorem spec_l28Order_l1_ok (k : Nat) : LoopOK (mkEnv ti [(143, fe_spec_l28Find k)] (lk []) pins0 pinB0) (spec_l28Order_O k) (rdC (mkEnv ti [(143, fe_spec_l28Find k)] (lk []) pins0 pinB0) [.tmp 2] (.sl 3 (.int .i64))) ((loopsOf (codeOf Tryz.f102)).getD 1 .skip) (fun σ kx => spec_l28Order_l1_h.get σ fun x => spec_l28Order_l1_F k k x kx) := by
  refine ⟨spec_l28Order_l1_h, [(2, spec_l28Order_l1_x2)], fun n x kx => spec_l28Order_l1_F k n x kx, k, by kernel_rfl, by kernel_rfl, fun x kx => by kernel_rfl, ?_, fun σ kx => rfl⟩
  rintro n ⟨⟨list0, ⟨⟩, ⟨⟩, next5, i6, ⟨⟩⟩, ⟨q_3, q_4, ⟨⟩⟩, ⟨⟩⟩ kx
  kernel_rfl
theorem spec_l28Order_l0_ok (k : Nat) : LoopOK (mkEnv ti [(143, fe_spec_l28Find k)] (lk []) pins0 pinB0) (spec_l28Order_O k) (rdC (mkEnv ti [(143, fe_spec_l28Find k)] (lk []) pins0 pinB0) [.tmp 2] (.sl 3 (.int .i64))) ((loopsOf (codeOf Tryz.f102)).getD 0 .skip) (fun σ kx => spec_l28Order_l0_h.get σ fun x => spec_l28Order_l0_F k k x kx) := by
  refine ⟨spec_l28Order_l0_h, [(0, spec_l28Order_l0_x0)], fun n x kx => spec_l28Order_l0_F k n x kx, k, by kernel_rfl, by kernel_rfl, fun x kx => by kernel_rfl, ?_, fun σ kx => rfl⟩
  rintro n ⟨⟨list0, ⟨⟩, ⟨⟩, ⟨⟩⟩, ⟨q_1, q_2, ⟨⟩⟩, ⟨⟩⟩ kx
  kernel_rfl
theorem ok_spec_l28Order (k : Nat) : FnOK Tryz.prog 102 (fe_spec_l28Order k) := by
  refine closed_ok (tab := [(143, fe_spec_l28Find k)]) (l := []) ti_ok ti_ht mix (List.forall_mem_cons.2 ⟨ok_spec_l28Find k, (List.forall_mem_nil _)⟩) (List.forall_mem_nil _) ⟨⟨Tryz.f102, (codeOf Tryz.f102), [.tmp 2], (spec_l28Order_O k), by kernel_rfl, by kernel_rfl, by kernel_rfl, by kernel_rfl, rfl, by decide, ⟨by kernel_rfl, ?_, ?_⟩, ?_⟩⟩
  · refine loops_of (n := 3) (by kernel_rfl) fun i hi => ?_
    match i, hi with
    | 0, _ => exact loop_of (by kernel_rfl) (spec_l28Order_l0_ok k)
    | 1, _ => exact loop_of (by kernel_rfl) (spec_l28Order_l1_ok k)
    | 2, _ => exact loop_of (by kernel_rfl) (spec_l28Order_l2_ok k)
    | n + 3, hi => omega
  · exact no_cuts (by kernel_rfl)
  · rintro list0
    kernel_rfl
/- 50 loop.example/g01005/spec.l28Ok -/
def spec_l28Ok (k : Nat) (list0 : List (List UInt8 × List (List UInt8) × Int × Int)) : Option Bool := (spec_l28Form k list0).bind fun r_1 => (if r_1 = true then (spec_l28Order k list0).bind fun r_2 => some (decide ((List.length r_2 : Int) = (List.length list0 : Int))) else some false)
def fe_spec_l28Ok (k : Nat) : FE := ⟨(.sl 117 (.st (.pr .str (.pr (.sl 9 .str) (.pr (.int .i64) (.int .i64)))))), 1, .bool, fun x => spec_l28Ok k x⟩
theorem ok_spec_l28Ok (k : Nat) : FnOK Tryz.prog 50 (fe_spec_l28Ok k) := by
  refine closed_ok (tab := [(101, fe_spec_l28Form k), (102, fe_spec_l28Order k)]) (l := []) ti_ok ti_ht mix (List.forall_mem_cons.2 ⟨ok_spec_l28Form k, (List.forall_mem_cons.2 ⟨ok_spec_l28Order k, (List.forall_mem_nil _)⟩)⟩) (List.forall_mem_nil _) ⟨⟨Tryz.f50, (codeOf Tryz.f50), [.tmp 2], (LOn Bool), by kernel_rfl, by kernel_rfl, by kernel_rfl, by kernel_rfl, rfl, by decide, ⟨by kernel_rfl, ?_, ?_⟩, ?_⟩⟩
  · exact no_loops (by kernel_rfl)
  · exact no_cuts (by kernel_rfl)
  · rintro list0
    kernel_rfl
/- 52 loop.example/g01005/spec.l10All -/
def spec_l10All (k : Nat) (s0 : List (List Int) × Int × List Int × List (Int × Int × Int × List Int)) : Option Int := (spec_l09Sum k s0.1 s0.2.2.1 0).bind fun r_1 => some r_1
def fe_spec_l10All (k : Nat) : FE := ⟨(.ptr (.st (.pr (.st (.sl 25 (.sl 2 (.int .i64)))) (.pr (.int .i64) (.pr (.sl 2 (.int .i64)) (.sl 49 (.st (.pr (.int .i64) (.pr (.int .i64) (.pr (.int .i64) (.sl 2 (.int .i64)))))))))))), 1, (.int .i64), fun x => spec_l10All k x⟩
theorem ok_spec_l10All (k : Nat) : FnOK Tryz.prog 52 (fe_spec_l10All k) := by
  refine closed_ok (tab := [(104, fe_spec_l09Sum k)]) (l := []) ti_ok ti_ht mix (List.forall_mem_cons.2 ⟨ok_spec_l09Sum k, (List.forall_mem_nil _)⟩) (List.forall_mem_nil _) ⟨⟨Tryz.f52, (codeOf Tryz.f52), [.tmp 2], (LOn Int), by kernel_rfl, by kernel_rfl, by kernel_rfl, by kernel_rfl, rfl, by decide, ⟨by kernel_rfl, ?_, ?_⟩, ?_⟩⟩
  · exact no_loops (by kernel_rfl)
  · exact no_cuts (by kernel_rfl)
  · rintro s0
    kernel_rfl
end
end Go.Proofs.YtmmkijdfiaaobaaGreat.Ev
