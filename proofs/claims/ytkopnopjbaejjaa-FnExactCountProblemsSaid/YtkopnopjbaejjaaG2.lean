/- Functions of the program, as plain ones. No conditions. -/
import Derived.Test.YtkopnopjbaejjaaG1
import Derived.KernelRfl
set_option linter.unusedVariables false
set_option maxRecDepth 100000
namespace Go.Proofs.Ytkopnopjbaejjaa.Ev
open Go.RowKit
noncomputable section
/- 17 loop.example/g01005/impl.CountProblems -/
def impl_CountProblems_l0 (k : Nat) : Nat → Int → Int → (List Int) → (List (Int × List UInt8 × List UInt8)) → ((List Int) → Option (List Int)) → Option (List Int)
  | 0, _, _, _, _, _ => none
  | n + 1, x16, x17, q_6, q_7, e_0 => (if (decide (x17 < x16)) = true then (if 0 ≤ x17 ∧ x17.toNat < List.length q_7 then (q_7[x17.toNat]?).bind fun y_8 => (if 0 ≤ y_8.1 ∧ y_8.1.toNat < List.length q_6 then (q_6[y_8.1.toNat]?).bind fun y_9 => (if 0 ≤ y_8.1 ∧ y_8.1.toNat < List.length q_6 then (q_6[y_8.1.toNat]?).bind fun y_10 => (q_6[y_8.1.toNat]?).bind fun y_11 => impl_CountProblems_l0 k n x16 (w_i64 (x17 + 1)) (q_6.set y_8.1.toNat (w_i64 (y_9 + 1))) q_7 e_0 else none) else none) else none) else e_0 q_6)
def impl_CountProblems (k : Nat) (list0 : List (Int × List UInt8 × List UInt8)) : Option (List Int) := (slices_Clone_impl_Problem list0).bind fun r_1 => (slices_DeleteFunc_impl_Problem_g__impl_CountProblems_1 k r_1).bind fun y_2 => (if 0 ≤ (6 : Int) ∧ (6 : Int) ≤ 6 ∧ (6 : Int) * 8 ≤ LIM then (impl_size_impl_Problem y_2.2.1.1).bind fun r_3 => (if 0 ≤ (0 : Int) ∧ 0 < List.length (List.replicate 6 0) then ((List.replicate 6 0)[0]?).bind fun y_4 => ((List.replicate 6 0)[0]?).bind fun y_5 => impl_CountProblems_l0 k k (List.length y_2.2.1.1 : Int) 0 ((List.replicate 6 0).set 0 r_3) y_2.2.1.1 (fun q_12 => some q_12) else none) else none)
def impl_CountProblems_l0_h : Head := ⟨[(4, (.ref 64000000 [])), (15, (.ref 64000001 [])), (16, (.val (.int .i64))), (17, (.val (.int .i64)))], [(64000000, 2, (.int .i64), false), (64000001, 88, (.st (.pr (.int .i64) (.pr .str .str))), false)], []⟩
def impl_CountProblems_l0_x0 : Head := ⟨[(4, (.ref 64000000 []))], [(64000000, 2, (.int .i64), false)], []⟩
def impl_CountProblems_l0_F (k n : Nat) (x : impl_CountProblems_l0_h.T) (kx : Nat → St → Option (List Int)) : Option (List Int) := impl_CountProblems_l0 k n x.1.2.2.1 x.1.2.2.2.1 x.2.1.1 x.2.1.2.1 (fun (q_12 : List Int) => kx 0 (impl_CountProblems_l0_x0.fill (((), ()), (q_12, ()), ())))
def impl_CountProblems_O (k : Nat) : Oracles (List Int) := ⟨fun n => bif Nat.beq n 5 then some (fun σ kx => impl_CountProblems_l0_h.get σ fun x => impl_CountProblems_l0_F k k x kx) else none, fun _ => none⟩
def fe_impl_CountProblems (k : Nat) : FE := ⟨(.sl 88 (.st (.pr (.int .i64) (.pr .str .str)))), 1, (.sl 2 (.int .i64)), fun x => impl_CountProblems k x⟩
theorem impl_CountProblems_l0_ok (k : Nat) : LoopOK (mkEnv ti [(67, fe_slices_Clone_impl_Problem), (70, fe_impl_size_impl_Problem)] (lk [(9, 66, oc_slices_DeleteFunc_impl_Problem_g__impl_CountProblems_1 k)]) pins0 pinB0) (impl_CountProblems_O k) (rdC (mkEnv ti [(67, fe_slices_Clone_impl_Problem), (70, fe_impl_size_impl_Problem)] (lk [(9, 66, oc_slices_DeleteFunc_impl_Problem_g__impl_CountProblems_1 k)]) pins0 pinB0) [.tmp 2] (.sl 2 (.int .i64))) ((loopsOf (codeOf Try.f17)).getD 0 .skip) (fun σ kx => impl_CountProblems_l0_h.get σ fun x => impl_CountProblems_l0_F k k x kx) := by
  refine ⟨impl_CountProblems_l0_h, [(0, impl_CountProblems_l0_x0)], fun n x kx => impl_CountProblems_l0_F k n x kx, k, by kernel_rfl, by kernel_rfl, fun x kx => by kernel_rfl, ?_, fun σ kx => rfl⟩
  rintro n ⟨⟨⟨⟩, ⟨⟩, x16, x17, ⟨⟩⟩, ⟨q_6, q_7, ⟨⟩⟩, ⟨⟩⟩ kx
  kernel_rfl
theorem ok_impl_CountProblems (k : Nat) : FnOK Try.prog 17 (fe_impl_CountProblems k) := by
  refine closed_ok (tab := [(67, fe_slices_Clone_impl_Problem), (70, fe_impl_size_impl_Problem)]) (l := [(9, 66, oc_slices_DeleteFunc_impl_Problem_g__impl_CountProblems_1 k)]) ti_ok ti_ht mix (List.forall_mem_cons.2 ⟨ok_slices_Clone_impl_Problem, (List.forall_mem_cons.2 ⟨ok_impl_size_impl_Problem, (List.forall_mem_nil _)⟩)⟩) (List.forall_mem_cons.2 ⟨ok_slices_DeleteFunc_impl_Problem_g__impl_CountProblems_1 k, (List.forall_mem_nil _)⟩) ⟨⟨Try.f17, (codeOf Try.f17), [.tmp 2], (impl_CountProblems_O k), by kernel_rfl, by kernel_rfl, by kernel_rfl, by kernel_rfl, rfl, by decide, ⟨by kernel_rfl, ?_, ?_⟩, ?_⟩⟩
  · refine loops_of (n := 1) (by kernel_rfl) fun i hi => ?_
    match i, hi with
    | 0, _ => exact loop_of (by kernel_rfl) (impl_CountProblems_l0_ok k)
    | n + 1, hi => omega
  · exact no_cuts (by kernel_rfl)
  · rintro list0
    kernel_rfl
/- 18 loop.example/g01005/laws.eqInt64S -/
def laws_eqInt64S_l0 (k : Nat) : Nat → (List Int) → (List Int) → Int → (Option Bool) → Option Bool
  | 0, _, _, _, _ => none
  | n + 1, a0, b1, i5, e_0 => (if (decide (i5 < (List.length a0 : Int))) = true then (if 0 ≤ i5 then (a0[i5.toNat]?).bind fun y_1 => (if 0 ≤ i5 then (b1[i5.toNat]?).bind fun y_2 => (if (!(decide (y_1 = y_2))) = true then some false else laws_eqInt64S_l0 k n a0 b1 (w_i64 (i5 + 1)) e_0) else none) else none) else e_0)
def laws_eqInt64S (k : Nat) (a0 : List Int) (b1 : List Int) : Option Bool := (if (!(decide ((List.length a0 : Int) = (List.length b1 : Int)))) = true then some false else laws_eqInt64S_l0 k k a0 b1 0 (some true))
def laws_eqInt64S_l0_h : Head := ⟨[(0, (.val (.sl 2 (.int .i64)))), (1, (.val (.sl 2 (.int .i64)))), (5, (.val (.int .i64)))], [], []⟩
def laws_eqInt64S_l0_x0 : Head := ⟨[], [], []⟩
def laws_eqInt64S_l0_F (k n : Nat) (x : laws_eqInt64S_l0_h.T) (kx : Nat → St → Option Bool) : Option Bool := laws_eqInt64S_l0 k n x.1.1 x.1.2.1 x.1.2.2.1 (kx 0 (laws_eqInt64S_l0_x0.fill ((), (), ())))
def laws_eqInt64S_O (k : Nat) : Oracles Bool := ⟨fun n => bif Nat.beq n 4 then some (fun σ kx => laws_eqInt64S_l0_h.get σ fun x => laws_eqInt64S_l0_F k k x kx) else none, fun _ => none⟩
def fe_laws_eqInt64S (k : Nat) : FE := ⟨(.pr (.sl 2 (.int .i64)) (.sl 2 (.int .i64))), 1, .bool, fun x => laws_eqInt64S k x.1 x.2⟩
theorem laws_eqInt64S_l0_ok (k : Nat) : LoopOK (mkEnv ti [] (lk []) pins0 pinB0) (laws_eqInt64S_O k) (rdC (mkEnv ti [] (lk []) pins0 pinB0) [.tmp 4] .bool) ((loopsOf (codeOf Try.f18)).getD 0 .skip) (fun σ kx => laws_eqInt64S_l0_h.get σ fun x => laws_eqInt64S_l0_F k k x kx) := by
  refine ⟨laws_eqInt64S_l0_h, [(0, laws_eqInt64S_l0_x0)], fun n x kx => laws_eqInt64S_l0_F k n x kx, k, by kernel_rfl, by kernel_rfl, fun x kx => by kernel_rfl, ?_, fun σ kx => rfl⟩
  rintro n ⟨⟨a0, b1, i5, ⟨⟩⟩, ⟨⟩, ⟨⟩⟩ kx
  kernel_rfl
theorem ok_laws_eqInt64S (k : Nat) : FnOK Try.prog 18 (fe_laws_eqInt64S k) := by
  refine closed_ok (tab := []) (l := []) ti_ok ti_ht mix (List.forall_mem_nil _) (List.forall_mem_nil _) ⟨⟨Try.f18, (codeOf Try.f18), [.tmp 4], (laws_eqInt64S_O k), by kernel_rfl, by kernel_rfl, by kernel_rfl, by kernel_rfl, rfl, by decide, ⟨by kernel_rfl, ?_, ?_⟩, ?_⟩⟩
  · refine loops_of (n := 1) (by kernel_rfl) fun i hi => ?_
    match i, hi with
    | 0, _ => exact loop_of (by kernel_rfl) (laws_eqInt64S_l0_ok k)
    | n + 1, hi => omega
  · exact no_cuts (by kernel_rfl)
  · rintro ⟨a0, b1⟩
    kernel_rfl
/- 71 loop.example/g01005/laws.eqProblem -/
def laws_eqProblem (a0 : Int × List UInt8 × List UInt8) (b1 : Int × List UInt8 × List UInt8) : Option Bool := (if (!(decide (a0.1 = b1.1))) = true then some false else (if (!(decide (a0.2.1 = b1.2.1))) = true then some false else (if (!(decide (a0.2.2 = b1.2.2))) = true then some false else some true)))
def fe_laws_eqProblem : FE := ⟨(.pr (.st (.pr (.int .i64) (.pr .str .str))) (.st (.pr (.int .i64) (.pr .str .str)))), 1, .bool, fun x => laws_eqProblem x.1 x.2⟩
theorem ok_laws_eqProblem : FnOK Try.prog 71 (fe_laws_eqProblem) := by
  refine closed_ok (tab := []) (l := []) ti_ok ti_ht mix (List.forall_mem_nil _) (List.forall_mem_nil _) ⟨⟨Try.f71, (codeOf Try.f71), [.tmp 4], (LOn Bool), by kernel_rfl, by kernel_rfl, by kernel_rfl, by kernel_rfl, rfl, by decide, ⟨by kernel_rfl, ?_, ?_⟩, ?_⟩⟩
  · exact no_loops (by kernel_rfl)
  · exact no_cuts (by kernel_rfl)
  · rintro ⟨a0, b1⟩
    kernel_rfl
/- 19 loop.example/g01005/laws.eqProblemS -/
def laws_eqProblemS_l0 (k : Nat) : Nat → (List (Int × List UInt8 × List UInt8)) → (List (Int × List UInt8 × List UInt8)) → Int → (Option Bool) → Option Bool
  | 0, _, _, _, _ => none
  | n + 1, a0, b1, i5, e_0 => (if (decide (i5 < (List.length a0 : Int))) = true then (if 0 ≤ i5 then (a0[i5.toNat]?).bind fun y_1 => (if 0 ≤ i5 then (b1[i5.toNat]?).bind fun y_2 => (laws_eqProblem y_1 y_2).bind fun r_3 => (if (!r_3) = true then some false else laws_eqProblemS_l0 k n a0 b1 (w_i64 (i5 + 1)) e_0) else none) else none) else e_0)
def laws_eqProblemS (k : Nat) (a0 : List (Int × List UInt8 × List UInt8)) (b1 : List (Int × List UInt8 × List UInt8)) : Option Bool := (if (!(decide ((List.length a0 : Int) = (List.length b1 : Int)))) = true then some false else laws_eqProblemS_l0 k k a0 b1 0 (some true))
def laws_eqProblemS_l0_h : Head := ⟨[(0, (.val (.sl 88 (.st (.pr (.int .i64) (.pr .str .str)))))), (1, (.val (.sl 88 (.st (.pr (.int .i64) (.pr .str .str)))))), (5, (.val (.int .i64)))], [], []⟩
def laws_eqProblemS_l0_x0 : Head := ⟨[], [], []⟩
def laws_eqProblemS_l0_F (k n : Nat) (x : laws_eqProblemS_l0_h.T) (kx : Nat → St → Option Bool) : Option Bool := laws_eqProblemS_l0 k n x.1.1 x.1.2.1 x.1.2.2.1 (kx 0 (laws_eqProblemS_l0_x0.fill ((), (), ())))
def laws_eqProblemS_O (k : Nat) : Oracles Bool := ⟨fun n => bif Nat.beq n 4 then some (fun σ kx => laws_eqProblemS_l0_h.get σ fun x => laws_eqProblemS_l0_F k k x kx) else none, fun _ => none⟩
def fe_laws_eqProblemS (k : Nat) : FE := ⟨(.pr (.sl 88 (.st (.pr (.int .i64) (.pr .str .str)))) (.sl 88 (.st (.pr (.int .i64) (.pr .str .str))))), 1, .bool, fun x => laws_eqProblemS k x.1 x.2⟩
theorem laws_eqProblemS_l0_ok (k : Nat) : LoopOK (mkEnv ti [(71, fe_laws_eqProblem)] (lk []) pins0 pinB0) (laws_eqProblemS_O k) (rdC (mkEnv ti [(71, fe_laws_eqProblem)] (lk []) pins0 pinB0) [.tmp 4] .bool) ((loopsOf (codeOf Try.f19)).getD 0 .skip) (fun σ kx => laws_eqProblemS_l0_h.get σ fun x => laws_eqProblemS_l0_F k k x kx) := by
  refine ⟨laws_eqProblemS_l0_h, [(0, laws_eqProblemS_l0_x0)], fun n x kx => laws_eqProblemS_l0_F k n x kx, k, by kernel_rfl, by kernel_rfl, fun x kx => by kernel_rfl, ?_, fun σ kx => rfl⟩
  rintro n ⟨⟨a0, b1, i5, ⟨⟩⟩, ⟨⟩, ⟨⟩⟩ kx
  kernel_rfl
theorem ok_laws_eqProblemS (k : Nat) : FnOK Try.prog 19 (fe_laws_eqProblemS k) := by
  refine closed_ok (tab := [(71, fe_laws_eqProblem)]) (l := []) ti_ok ti_ht mix (List.forall_mem_cons.2 ⟨ok_laws_eqProblem, (List.forall_mem_nil _)⟩) (List.forall_mem_nil _) ⟨⟨Try.f19, (codeOf Try.f19), [.tmp 4], (laws_eqProblemS_O k), by kernel_rfl, by kernel_rfl, by kernel_rfl, by kernel_rfl, rfl, by decide, ⟨by kernel_rfl, ?_, ?_⟩, ?_⟩⟩
  · refine loops_of (n := 1) (by kernel_rfl) fun i hi => ?_
    match i, hi with
    | 0, _ => exact loop_of (by kernel_rfl) (laws_eqProblemS_l0_ok k)
    | n + 1, hi => omega
  · exact no_cuts (by kernel_rfl)
  · rintro ⟨a0, b1⟩
    kernel_rfl
/- 72 loop.example/g01005/laws.markText -/
def laws_markText_l0 (k : Nat) : Nat → Int → (List UInt8) → ((List UInt8) → Option (List UInt8)) → Option (List UInt8)
  | 0, _, _, _ => none
  | n + 1, k0, out3, e_0 => (if (decide (0 < k0)) = true then (if (to_S [(w_u8 ((w_i64 (48 + (Int.tmod k0 10)))))]).length + out3.length ≤ 9223372036854775807 then laws_markText_l0 k n (w_i64 (Int.tdiv k0 10)) ((to_S [(w_u8 ((w_i64 (48 + (Int.tmod k0 10)))))]) ++ out3) e_0 else none) else e_0 out3)
def laws_markText (k : Nat) (k0 : Int) : Option (List UInt8) := (if (decide (k0 ≤ 0)) = true then some [109, 48] else laws_markText_l0 k k k0 [] (fun out_1 => (if [109].length + out_1.length ≤ 9223372036854775807 then some ([109] ++ out_1) else none)))
def laws_markText_l0_h : Head := ⟨[(0, (.val (.int .i64))), (3, (.val .str))], [], []⟩
def laws_markText_l0_x0 : Head := ⟨[(3, (.val .str))], [], []⟩
def laws_markText_l0_F (k n : Nat) (x : laws_markText_l0_h.T) (kx : Nat → St → Option (List UInt8)) : Option (List UInt8) := laws_markText_l0 k n x.1.1 x.1.2.1 (fun (out3 : List UInt8) => kx 0 (laws_markText_l0_x0.fill ((out3, ()), (), ())))
def laws_markText_O (k : Nat) : Oracles (List UInt8) := ⟨fun n => bif Nat.beq n 4 then some (fun σ kx => laws_markText_l0_h.get σ fun x => laws_markText_l0_F k k x kx) else none, fun _ => none⟩
def fe_laws_markText (k : Nat) : FE := ⟨(.int .i64), 1, .str, fun x => laws_markText k x⟩
theorem laws_markText_l0_ok (k : Nat) : LoopOK (mkEnv ti [] (lk []) pins0 pinB0) (laws_markText_O k) (rdC (mkEnv ti [] (lk []) pins0 pinB0) [.tmp 2] .str) ((loopsOf (codeOf Try.f72)).getD 0 .skip) (fun σ kx => laws_markText_l0_h.get σ fun x => laws_markText_l0_F k k x kx) := by
  refine ⟨laws_markText_l0_h, [(0, laws_markText_l0_x0)], fun n x kx => laws_markText_l0_F k n x kx, k, by kernel_rfl, by kernel_rfl, fun x kx => by kernel_rfl, ?_, fun σ kx => rfl⟩
  rintro n ⟨⟨k0, out3, ⟨⟩⟩, ⟨⟩, ⟨⟩⟩ kx
  kernel_rfl
theorem ok_laws_markText (k : Nat) : FnOK Try.prog 72 (fe_laws_markText k) := by
  refine closed_ok (tab := []) (l := []) ti_ok ti_ht mix (List.forall_mem_nil _) (List.forall_mem_nil _) ⟨⟨Try.f72, (codeOf Try.f72), [.tmp 2], (laws_markText_O k), by kernel_rfl, by kernel_rfl, by kernel_rfl, by kernel_rfl, rfl, by decide, ⟨by kernel_rfl, ?_, ?_⟩, ?_⟩⟩
  · refine loops_of (n := 1) (by kernel_rfl) fun i hi => ?_
    match i, hi with
    | 0, _ => exact loop_of (by kernel_rfl) (laws_markText_l0_ok k)
    | n + 1, hi => omega
  · exact no_cuts (by kernel_rfl)
  · rintro k0
    kernel_rfl
/- 20 loop.example/g01005/laws.markProblemS (open) -/
def laws_markProblemS_o_l0 (k : Nat) : Nat → Int → Int → (List (Int × List UInt8 × List UInt8)) → (Int → (List (Int × List UInt8 × List UInt8)) → Option (((Int × Unit) × ((List (Int × List UInt8 × List UInt8)) × Unit) × Unit))) → Option (((Int × Unit) × ((List (Int × List UInt8 × List UInt8)) × Unit) × Unit))
  | 0, _, _, _, _ => none
  | n + 1, k1, i5, q_2, e_0 => (if (decide (i5 < (List.length q_2 : Int))) = true then (if 0 ≤ i5 ∧ i5.toNat < List.length q_2 then (q_2[i5.toNat]?).bind fun y_3 => (q_2[i5.toNat]?).bind fun y_4 => (laws_markText k (w_i64 (k1 + 1))).bind fun r_5 => (if 0 ≤ i5 ∧ i5.toNat < List.length (q_2.set i5.toNat (k1, y_3.2)) then ((q_2.set i5.toNat (k1, y_3.2))[i5.toNat]?).bind fun y_6 => ((q_2.set i5.toNat (k1, y_3.2))[i5.toNat]?).bind fun y_7 => (laws_markText k (w_i64 ((w_i64 (k1 + 1)) + 1))).bind fun r_8 => (if 0 ≤ i5 ∧ i5.toNat < List.length ((q_2.set i5.toNat (k1, y_3.2)).set i5.toNat (y_6.1, (r_5, y_6.2.2))) then (((q_2.set i5.toNat (k1, y_3.2)).set i5.toNat (y_6.1, (r_5, y_6.2.2)))[i5.toNat]?).bind fun y_9 => (((q_2.set i5.toNat (k1, y_3.2)).set i5.toNat (y_6.1, (r_5, y_6.2.2)))[i5.toNat]?).bind fun y_10 => laws_markProblemS_o_l0 k n (w_i64 ((w_i64 ((w_i64 (k1 + 1)) + 1)) + 1)) (w_i64 (i5 + 1)) (((q_2.set i5.toNat (k1, y_3.2)).set i5.toNat (y_6.1, (r_5, y_6.2.2))).set i5.toNat (y_9.1, (y_9.2.1, r_8))) e_0 else none) else none) else none) else e_0 k1 q_2)
def laws_markProblemS_o (k : Nat) (k1 : Int) (q_1 : List (Int × List UInt8 × List UInt8)) : Option (((Int × Unit) × ((List (Int × List UInt8 × List UInt8)) × Unit) × Unit)) := laws_markProblemS_o_l0 k k k1 0 q_1 (fun k_11 q_12 => some ((k_11, ()), (q_12, ()), ()))
def laws_markProblemS_o_l0_h : Head := ⟨[(0, (.ref 1000000000 [])), (1, (.val (.int .i64))), (5, (.val (.int .i64)))], [(1000000000, 88, (.st (.pr (.int .i64) (.pr .str .str))), false)], []⟩
def laws_markProblemS_o_l0_x0 : Head := ⟨[(1, (.val (.int .i64)))], [(1000000000, 88, (.st (.pr (.int .i64) (.pr .str .str))), false)], []⟩
def laws_markProblemS_o_l0_F (k n : Nat) (x : laws_markProblemS_o_l0_h.T) (kx : Nat → St → Option (((Int × Unit) × ((List (Int × List UInt8 × List UInt8)) × Unit) × Unit))) : Option (((Int × Unit) × ((List (Int × List UInt8 × List UInt8)) × Unit) × Unit)) := laws_markProblemS_o_l0 k n x.1.2.1 x.1.2.2.1 x.2.1.1 (fun (k1 : Int) (q_11 : List (Int × List UInt8 × List UInt8)) => kx 0 (laws_markProblemS_o_l0_x0.fill ((k1, ()), (q_11, ()), ())))
def laws_markProblemS_o_O (k : Nat) : Oracles (((Int × Unit) × ((List (Int × List UInt8 × List UInt8)) × Unit) × Unit)) := ⟨fun n => bif Nat.beq n 2 then some (fun σ kx => laws_markProblemS_o_l0_h.get σ fun x => laws_markProblemS_o_l0_F k k x kx) else none, fun _ => none⟩
def laws_markProblemS_o_hi : Head := ⟨[(0, (.ref 1000000000 [])), (1, (.val (.int .i64)))], [(1000000000, 88, (.st (.pr (.int .i64) (.pr .str .str))), false)], []⟩
def laws_markProblemS_o_ho : Head := ⟨[(0, (.val (.int .i64)))], [(1000000000, 88, (.st (.pr (.int .i64) (.pr .str .str))), false)], []⟩
def oc_laws_markProblemS_o (k : Nat) : OC := ⟨laws_markProblemS_o_hi, laws_markProblemS_o_ho, fun x => laws_markProblemS_o k x.1.2.1 x.2.1.1⟩
theorem laws_markProblemS_o_l0_ok (k : Nat) (pins : Nat → Value) (pinB : Nat → Nat) : LoopOK (mkEnv ti [(72, fe_laws_markText k)] (lk []) pins pinB) (laws_markProblemS_o_O k) (rdO (mkEnv ti [(72, fe_laws_markText k)] (lk []) pins pinB) [.tmp 4] laws_markProblemS_o_ho) ((loopsOf (codeOf Try.f20)).getD 0 .skip) (fun σ kx => laws_markProblemS_o_l0_h.get σ fun x => laws_markProblemS_o_l0_F k k x kx) := by
  refine ⟨laws_markProblemS_o_l0_h, [(0, laws_markProblemS_o_l0_x0)], fun n x kx => laws_markProblemS_o_l0_F k n x kx, k, by kernel_rfl, by kernel_rfl, fun x kx => by kernel_rfl, ?_, fun σ kx => rfl⟩
  rintro n ⟨⟨⟨⟩, k1, i5, ⟨⟩⟩, ⟨q_2, ⟨⟩⟩, ⟨⟩⟩ kx
  kernel_rfl
theorem ok_laws_markProblemS_o (k : Nat) : OpenOK Try.prog ti 20 (oc_laws_markProblemS_o k) := by
  refine open_ok (tab := [(72, fe_laws_markText k)]) (l := []) ti_ok ti_ht mix (List.forall_mem_cons.2 ⟨ok_laws_markText k, (List.forall_mem_nil _)⟩) (List.forall_mem_nil _) ⟨by kernel_rfl, by kernel_rfl, Try.f20, (codeOf Try.f20), [.tmp 4], (laws_markProblemS_o_O k), by kernel_rfl, by kernel_rfl, by kernel_rfl, by kernel_rfl, Nat.le_of_ble_eq_true (by kernel_rfl), fun pins pinB => ⟨⟨by kernel_rfl, ?_, ?_⟩, ?_⟩⟩
  · refine loops_of (n := 1) (by kernel_rfl) fun i hi => ?_
    match i, hi with
    | 0, _ => exact loop_of (by kernel_rfl) (laws_markProblemS_o_l0_ok k pins pinB)
    | n + 1, hi => omega
  · exact no_cuts (by kernel_rfl)
  · rintro ⟨⟨⟨⟩, k1, ⟨⟩⟩, ⟨q_1, ⟨⟩⟩, ⟨⟩⟩
    kernel_rfl
/- 21 loop.example/g01005/laws.markInt64S (open) -/
def laws_markInt64S_o_l0 (k : Nat) : Nat → Int → Int → (List Int) → (Int → (List Int) → Option (((Int × Unit) × ((List Int) × Unit) × Unit))) → Option (((Int × Unit) × ((List Int) × Unit) × Unit))
  | 0, _, _, _, _ => none
  | n + 1, k1, i5, q_2, e_0 => (if (decide (i5 < (List.length q_2 : Int))) = true then (if 0 ≤ i5 ∧ i5.toNat < List.length q_2 then (q_2[i5.toNat]?).bind fun y_3 => (q_2[i5.toNat]?).bind fun y_4 => laws_markInt64S_o_l0 k n (w_i64 (k1 + 1)) (w_i64 (i5 + 1)) (q_2.set i5.toNat k1) e_0 else none) else e_0 k1 q_2)
def laws_markInt64S_o (k : Nat) (k1 : Int) (q_1 : List Int) : Option (((Int × Unit) × ((List Int) × Unit) × Unit)) := laws_markInt64S_o_l0 k k k1 0 q_1 (fun k_5 q_6 => some ((k_5, ()), (q_6, ()), ()))
def laws_markInt64S_o_l0_h : Head := ⟨[(0, (.ref 1000000000 [])), (1, (.val (.int .i64))), (5, (.val (.int .i64)))], [(1000000000, 2, (.int .i64), false)], []⟩
def laws_markInt64S_o_l0_x0 : Head := ⟨[(1, (.val (.int .i64)))], [(1000000000, 2, (.int .i64), false)], []⟩
def laws_markInt64S_o_l0_F (k n : Nat) (x : laws_markInt64S_o_l0_h.T) (kx : Nat → St → Option (((Int × Unit) × ((List Int) × Unit) × Unit))) : Option (((Int × Unit) × ((List Int) × Unit) × Unit)) := laws_markInt64S_o_l0 k n x.1.2.1 x.1.2.2.1 x.2.1.1 (fun (k1 : Int) (q_5 : List Int) => kx 0 (laws_markInt64S_o_l0_x0.fill ((k1, ()), (q_5, ()), ())))
def laws_markInt64S_o_O (k : Nat) : Oracles (((Int × Unit) × ((List Int) × Unit) × Unit)) := ⟨fun n => bif Nat.beq n 2 then some (fun σ kx => laws_markInt64S_o_l0_h.get σ fun x => laws_markInt64S_o_l0_F k k x kx) else none, fun _ => none⟩
def laws_markInt64S_o_hi : Head := ⟨[(0, (.ref 1000000000 [])), (1, (.val (.int .i64)))], [(1000000000, 2, (.int .i64), false)], []⟩
def laws_markInt64S_o_ho : Head := ⟨[(0, (.val (.int .i64)))], [(1000000000, 2, (.int .i64), false)], []⟩
def oc_laws_markInt64S_o (k : Nat) : OC := ⟨laws_markInt64S_o_hi, laws_markInt64S_o_ho, fun x => laws_markInt64S_o k x.1.2.1 x.2.1.1⟩
theorem laws_markInt64S_o_l0_ok (k : Nat) (pins : Nat → Value) (pinB : Nat → Nat) : LoopOK (mkEnv ti [] (lk []) pins pinB) (laws_markInt64S_o_O k) (rdO (mkEnv ti [] (lk []) pins pinB) [.tmp 4] laws_markInt64S_o_ho) ((loopsOf (codeOf Try.f21)).getD 0 .skip) (fun σ kx => laws_markInt64S_o_l0_h.get σ fun x => laws_markInt64S_o_l0_F k k x kx) := by
  refine ⟨laws_markInt64S_o_l0_h, [(0, laws_markInt64S_o_l0_x0)], fun n x kx => laws_markInt64S_o_l0_F k n x kx, k, by kernel_rfl, by kernel_rfl, fun x kx => by kernel_rfl, ?_, fun σ kx => rfl⟩
  rintro n ⟨⟨⟨⟩, k1, i5, ⟨⟩⟩, ⟨q_2, ⟨⟩⟩, ⟨⟩⟩ kx
  kernel_rfl
theorem ok_laws_markInt64S_o (k : Nat) : OpenOK Try.prog ti 21 (oc_laws_markInt64S_o k) := by
  refine open_ok (tab := []) (l := []) ti_ok ti_ht mix (List.forall_mem_nil _) (List.forall_mem_nil _) ⟨by kernel_rfl, by kernel_rfl, Try.f21, (codeOf Try.f21), [.tmp 4], (laws_markInt64S_o_O k), by kernel_rfl, by kernel_rfl, by kernel_rfl, by kernel_rfl, Nat.le_of_ble_eq_true (by kernel_rfl), fun pins pinB => ⟨⟨by kernel_rfl, ?_, ?_⟩, ?_⟩⟩
  · refine loops_of (n := 1) (by kernel_rfl) fun i hi => ?_
    match i, hi with
    | 0, _ => exact loop_of (by kernel_rfl) (laws_markInt64S_o_l0_ok k pins pinB)
    | n + 1, hi => omega
  · exact no_cuts (by kernel_rfl)
  · rintro ⟨⟨⟨⟩, k1, ⟨⟩⟩, ⟨q_1, ⟨⟩⟩, ⟨⟩⟩
    kernel_rfl
/- 22 loop.example/g01005/laws.heldInt64S -/
def laws_heldInt64S_l0 (k : Nat) : Nat → (List Int) → Int → Int → (Int → Option Int) → Option Int
  | 0, _, _, _, _ => none
  | n + 1, a0, k1, i5, e_0 => (if (decide (i5 < (List.length a0 : Int))) = true then (if 0 ≤ i5 then (a0[i5.toNat]?).bind fun y_1 => (if (!(decide (y_1 = k1))) = true then some (-1) else laws_heldInt64S_l0 k n a0 (w_i64 (k1 + 1)) (w_i64 (i5 + 1)) e_0) else none) else e_0 k1)
def laws_heldInt64S (k : Nat) (a0 : List Int) (k1 : Int) : Option Int := laws_heldInt64S_l0 k k a0 k1 0 (fun k_2 => some k_2)
def laws_heldInt64S_l0_h : Head := ⟨[(0, (.val (.sl 2 (.int .i64)))), (1, (.val (.int .i64))), (5, (.val (.int .i64)))], [], []⟩
def laws_heldInt64S_l0_x0 : Head := ⟨[(1, (.val (.int .i64)))], [], []⟩
def laws_heldInt64S_l0_F (k n : Nat) (x : laws_heldInt64S_l0_h.T) (kx : Nat → St → Option Int) : Option Int := laws_heldInt64S_l0 k n x.1.1 x.1.2.1 x.1.2.2.1 (fun (k1 : Int) => kx 0 (laws_heldInt64S_l0_x0.fill ((k1, ()), (), ())))
def laws_heldInt64S_O (k : Nat) : Oracles Int := ⟨fun n => bif Nat.beq n 2 then some (fun σ kx => laws_heldInt64S_l0_h.get σ fun x => laws_heldInt64S_l0_F k k x kx) else none, fun _ => none⟩
def fe_laws_heldInt64S (k : Nat) : FE := ⟨(.pr (.sl 2 (.int .i64)) (.int .i64)), 1, (.int .i64), fun x => laws_heldInt64S k x.1 x.2⟩
theorem laws_heldInt64S_l0_ok (k : Nat) : LoopOK (mkEnv ti [] (lk []) pins0 pinB0) (laws_heldInt64S_O k) (rdC (mkEnv ti [] (lk []) pins0 pinB0) [.tmp 4] (.int .i64)) ((loopsOf (codeOf Try.f22)).getD 0 .skip) (fun σ kx => laws_heldInt64S_l0_h.get σ fun x => laws_heldInt64S_l0_F k k x kx) := by
  refine ⟨laws_heldInt64S_l0_h, [(0, laws_heldInt64S_l0_x0)], fun n x kx => laws_heldInt64S_l0_F k n x kx, k, by kernel_rfl, by kernel_rfl, fun x kx => by kernel_rfl, ?_, fun σ kx => rfl⟩
  rintro n ⟨⟨a0, k1, i5, ⟨⟩⟩, ⟨⟩, ⟨⟩⟩ kx
  kernel_rfl
theorem ok_laws_heldInt64S (k : Nat) : FnOK Try.prog 22 (fe_laws_heldInt64S k) := by
  refine closed_ok (tab := []) (l := []) ti_ok ti_ht mix (List.forall_mem_nil _) (List.forall_mem_nil _) ⟨⟨Try.f22, (codeOf Try.f22), [.tmp 4], (laws_heldInt64S_O k), by kernel_rfl, by kernel_rfl, by kernel_rfl, by kernel_rfl, rfl, by decide, ⟨by kernel_rfl, ?_, ?_⟩, ?_⟩⟩
  · refine loops_of (n := 1) (by kernel_rfl) fun i hi => ?_
    match i, hi with
    | 0, _ => exact loop_of (by kernel_rfl) (laws_heldInt64S_l0_ok k)
    | n + 1, hi => omega
  · exact no_cuts (by kernel_rfl)
  · rintro ⟨a0, k1⟩
    kernel_rfl
/- 3 loop.example/g01005/laws.FnExactCountProblems -/
def laws_FnExactCountProblems (k : Nat) (aList0 : List (Int × List UInt8 × List UInt8)) : Option Bool := (laws_szProblemS k aList0 1048576).bind fun r_1 => (if (decide (r_1 < 0)) = true then some true else (laws_toProblemS k aList0).bind fun r_2 => (spec_CountProblems k r_2).bind fun r_3 => (laws_toProblemS k aList0).bind fun r_4 => (impl_CountProblems k r_4).bind fun r_5 => (laws_eqInt64S k r_5 r_3).bind fun r_6 => (if (!r_6) = true then some false else (laws_toProblemS k aList0).bind fun r_7 => (laws_eqProblemS k r_4 r_7).bind fun r_8 => (if (!r_8) = true then some false else (laws_markProblemS_o k 1 r_4).bind fun y_9 => (if (decide (y_9.1.1 < 0)) = true then some false else (laws_eqInt64S k r_5 r_3).bind fun r_10 => (if (!r_10) = true then some false else (laws_markInt64S_o k 1 r_5).bind fun y_11 => (laws_heldInt64S k y_11.2.1.1 1).bind fun r_12 => (if (decide (r_12 < 0)) = true then some false else (if (!(decide (r_12 = y_11.1.1))) = true then some false else (laws_toProblemS k aList0).bind fun r_13 => (impl_CountProblems k r_13).bind fun r_14 => (laws_eqInt64S k r_14 r_3).bind fun r_15 => (if (!r_15) = true then some false else (laws_heldInt64S k y_11.2.1.1 1).bind fun r_16 => (if (decide (r_16 < 0)) = true then some false else (if (!(decide (r_16 = y_11.1.1))) = true then some false else some true))))))))))
def fe_laws_FnExactCountProblems (k : Nat) : FE := ⟨(.sl 86 (.st (.pr (.int .i64) (.pr .str .str)))), 1, .bool, fun x => laws_FnExactCountProblems k x⟩
theorem ok_laws_FnExactCountProblems (k : Nat) : FnOK Try.prog 3 (fe_laws_FnExactCountProblems k) := by
  refine closed_ok (tab := [(14, fe_laws_szProblemS k), (16, fe_laws_toProblemS k), (15, fe_spec_CountProblems k), (17, fe_impl_CountProblems k), (18, fe_laws_eqInt64S k), (19, fe_laws_eqProblemS k), (22, fe_laws_heldInt64S k)]) (l := [(34, 20, oc_laws_markProblemS_o k), (45, 21, oc_laws_markInt64S_o k)]) ti_ok ti_ht mix (List.forall_mem_cons.2 ⟨ok_laws_szProblemS k, (List.forall_mem_cons.2 ⟨ok_laws_toProblemS k, (List.forall_mem_cons.2 ⟨ok_spec_CountProblems k, (List.forall_mem_cons.2 ⟨ok_impl_CountProblems k, (List.forall_mem_cons.2 ⟨ok_laws_eqInt64S k, (List.forall_mem_cons.2 ⟨ok_laws_eqProblemS k, (List.forall_mem_cons.2 ⟨ok_laws_heldInt64S k, (List.forall_mem_nil _)⟩)⟩)⟩)⟩)⟩)⟩)⟩) (List.forall_mem_cons.2 ⟨ok_laws_markProblemS_o k, (List.forall_mem_cons.2 ⟨ok_laws_markInt64S_o k, (List.forall_mem_nil _)⟩)⟩) ⟨⟨Try.f3, (codeOf Try.f3), [.tmp 2], (LOn Bool), by kernel_rfl, by kernel_rfl, by kernel_rfl, by kernel_rfl, rfl, by decide, ⟨by kernel_rfl, ?_, ?_⟩, ?_⟩⟩
  · exact no_loops (by kernel_rfl)
  · exact no_cuts (by kernel_rfl)
  · rintro aList0
    kernel_rfl
/- 51 loop.example/g01005/laws.szBlock -/
def laws_szBlock (a0 : List UInt8 × List UInt8 × List UInt8) (left1 : Int) : Option Int := (if (decide ((w_i64 (left1 - (List.length a0.1 : Int))) < 0)) = true then some (-1) else (if (decide ((w_i64 ((w_i64 (left1 - (List.length a0.1 : Int))) - (List.length a0.2.1 : Int))) < 0)) = true then some (-1) else (if (decide ((w_i64 ((w_i64 ((w_i64 (left1 - (List.length a0.1 : Int))) - (List.length a0.2.1 : Int))) - (List.length a0.2.2 : Int))) < 0)) = true then some (-1) else some (w_i64 ((w_i64 ((w_i64 (left1 - (List.length a0.1 : Int))) - (List.length a0.2.1 : Int))) - (List.length a0.2.2 : Int))))))
def fe_laws_szBlock : FE := ⟨(.pr (.st (.pr .str (.pr .str .str))) (.int .i64)), 1, (.int .i64), fun x => laws_szBlock x.1 x.2⟩
theorem ok_laws_szBlock : FnOK Try.prog 51 (fe_laws_szBlock) := by
  refine closed_ok (tab := []) (l := []) ti_ok ti_ht mix (List.forall_mem_nil _) (List.forall_mem_nil _) ⟨⟨Try.f51, (codeOf Try.f51), [.tmp 4], (LOn Int), by kernel_rfl, by kernel_rfl, by kernel_rfl, by kernel_rfl, rfl, by decide, ⟨by kernel_rfl, ?_, ?_⟩, ?_⟩⟩
  · exact no_loops (by kernel_rfl)
  · exact no_cuts (by kernel_rfl)
  · rintro ⟨a0, left1⟩
    kernel_rfl
/- 23 loop.example/g01005/laws.szBlockS -/
def laws_szBlockS_l0 (k : Nat) : Nat → (List (List UInt8 × List UInt8 × List UInt8)) → Int → Int → (Int → Option Int) → Option Int
  | 0, _, _, _, _ => none
  | n + 1, a0, left1, i5, e_0 => (if (decide (i5 < (List.length a0 : Int))) = true then (if 0 ≤ i5 then (a0[i5.toNat]?).bind fun y_1 => (laws_szBlock y_1 left1).bind fun r_2 => (if (decide (r_2 < 0)) = true then some (-1) else laws_szBlockS_l0 k n a0 r_2 (w_i64 (i5 + 1)) e_0) else none) else e_0 left1)
def laws_szBlockS (k : Nat) (a0 : List (List UInt8 × List UInt8 × List UInt8)) (left1 : Int) : Option Int := (if (decide ((w_i64 (left1 - (List.length a0 : Int))) < 0)) = true then some (-1) else laws_szBlockS_l0 k k a0 (w_i64 (left1 - (List.length a0 : Int))) 0 (fun left_3 => some left_3))
def laws_szBlockS_l0_h : Head := ⟨[(0, (.val (.sl 66 (.st (.pr .str (.pr .str .str)))))), (1, (.val (.int .i64))), (5, (.val (.int .i64)))], [], []⟩
def laws_szBlockS_l0_x0 : Head := ⟨[(1, (.val (.int .i64)))], [], []⟩
def laws_szBlockS_l0_F (k n : Nat) (x : laws_szBlockS_l0_h.T) (kx : Nat → St → Option Int) : Option Int := laws_szBlockS_l0 k n x.1.1 x.1.2.1 x.1.2.2.1 (fun (left1 : Int) => kx 0 (laws_szBlockS_l0_x0.fill ((left1, ()), (), ())))
def laws_szBlockS_O (k : Nat) : Oracles Int := ⟨fun n => bif Nat.beq n 5 then some (fun σ kx => laws_szBlockS_l0_h.get σ fun x => laws_szBlockS_l0_F k k x kx) else none, fun _ => none⟩
def fe_laws_szBlockS (k : Nat) : FE := ⟨(.pr (.sl 66 (.st (.pr .str (.pr .str .str)))) (.int .i64)), 1, (.int .i64), fun x => laws_szBlockS k x.1 x.2⟩
theorem laws_szBlockS_l0_ok (k : Nat) : LoopOK (mkEnv ti [(51, fe_laws_szBlock)] (lk []) pins0 pinB0) (laws_szBlockS_O k) (rdC (mkEnv ti [(51, fe_laws_szBlock)] (lk []) pins0 pinB0) [.tmp 4] (.int .i64)) ((loopsOf (codeOf Try.f23)).getD 0 .skip) (fun σ kx => laws_szBlockS_l0_h.get σ fun x => laws_szBlockS_l0_F k k x kx) := by
  refine ⟨laws_szBlockS_l0_h, [(0, laws_szBlockS_l0_x0)], fun n x kx => laws_szBlockS_l0_F k n x kx, k, by kernel_rfl, by kernel_rfl, fun x kx => by kernel_rfl, ?_, fun σ kx => rfl⟩
  rintro n ⟨⟨a0, left1, i5, ⟨⟩⟩, ⟨⟩, ⟨⟩⟩ kx
  kernel_rfl
theorem ok_laws_szBlockS (k : Nat) : FnOK Try.prog 23 (fe_laws_szBlockS k) := by
  refine closed_ok (tab := [(51, fe_laws_szBlock)]) (l := []) ti_ok ti_ht mix (List.forall_mem_cons.2 ⟨ok_laws_szBlock, (List.forall_mem_nil _)⟩) (List.forall_mem_nil _) ⟨⟨Try.f23, (codeOf Try.f23), [.tmp 4], (laws_szBlockS_O k), by kernel_rfl, by kernel_rfl, by kernel_rfl, by kernel_rfl, rfl, by decide, ⟨by kernel_rfl, ?_, ?_⟩, ?_⟩⟩
  · refine loops_of (n := 1) (by kernel_rfl) fun i hi => ?_
    match i, hi with
    | 0, _ => exact loop_of (by kernel_rfl) (laws_szBlockS_l0_ok k)
    | n + 1, hi => omega
  · exact no_cuts (by kernel_rfl)
  · rintro ⟨a0, left1⟩
    kernel_rfl
/- 53 loop.example/g01005/laws.toBlock -/
def laws_toBlock (a0 : List UInt8 × List UInt8 × List UInt8) : Option (List UInt8 × List UInt8 × List UInt8) := some (a0.1, (a0.2.1, a0.2.2))
def fe_laws_toBlock : FE := ⟨(.st (.pr .str (.pr .str .str))), 1, (.st (.pr .str (.pr .str .str))), fun x => laws_toBlock x⟩
theorem ok_laws_toBlock : FnOK Try.prog 53 (fe_laws_toBlock) := by
  refine closed_ok (tab := []) (l := []) ti_ok ti_ht mix (List.forall_mem_nil _) (List.forall_mem_nil _) ⟨⟨Try.f53, (codeOf Try.f53), [.cell 2 69], (LOn (List UInt8 × List UInt8 × List UInt8)), by kernel_rfl, by kernel_rfl, by kernel_rfl, by kernel_rfl, rfl, by decide, ⟨by kernel_rfl, ?_, ?_⟩, ?_⟩⟩
  · exact no_loops (by kernel_rfl)
  · exact no_cuts (by kernel_rfl)
  · rintro a0
    kernel_rfl
/- 25 loop.example/g01005/laws.toBlockS -/
def laws_toBlockS_l0 (k : Nat) : Nat → (List (List UInt8 × List UInt8 × List UInt8)) → Int → (List (List UInt8 × List UInt8 × List UInt8)) → ((List (List UInt8 × List UInt8 × List UInt8)) → Option (List (List UInt8 × List UInt8 × List UInt8))) → Option (List (List UInt8 × List UInt8 × List UInt8))
  | 0, _, _, _, _ => none
  | n + 1, a0, i4, q_1, e_0 => (if (decide (i4 < (List.length a0 : Int))) = true then (if 0 ≤ i4 then (a0[i4.toNat]?).bind fun y_2 => (laws_toBlock y_2).bind fun r_3 => (if 0 ≤ i4 ∧ i4.toNat < List.length q_1 then (q_1[i4.toNat]?).bind fun y_4 => (q_1[i4.toNat]?).bind fun y_5 => laws_toBlockS_l0 k n a0 (w_i64 (i4 + 1)) (q_1.set i4.toNat r_3) e_0 else none) else none) else e_0 q_1)
def laws_toBlockS (k : Nat) (a0 : List (List UInt8 × List UInt8 × List UInt8)) : Option (List (List UInt8 × List UInt8 × List UInt8)) := (if 0 ≤ (List.length a0 : Int) ∧ (List.length a0 : Int) ≤ (List.length a0 : Int) ∧ (List.length a0 : Int) * 48 ≤ LIM then laws_toBlockS_l0 k k a0 0 (List.replicate (List.length a0) ([], ([], []))) (fun q_6 => some q_6) else none)
def laws_toBlockS_l0_h : Head := ⟨[(0, (.val (.sl 66 (.st (.pr .str (.pr .str .str)))))), (3, (.ref 64000000 [])), (4, (.val (.int .i64)))], [(64000000, 69, (.st (.pr .str (.pr .str .str))), false)], []⟩
def laws_toBlockS_l0_x0 : Head := ⟨[(3, (.ref 64000000 []))], [(64000000, 69, (.st (.pr .str (.pr .str .str))), false)], []⟩
def laws_toBlockS_l0_F (k n : Nat) (x : laws_toBlockS_l0_h.T) (kx : Nat → St → Option (List (List UInt8 × List UInt8 × List UInt8))) : Option (List (List UInt8 × List UInt8 × List UInt8)) := laws_toBlockS_l0 k n x.1.1 x.1.2.2.1 x.2.1.1 (fun (q_6 : List (List UInt8 × List UInt8 × List UInt8)) => kx 0 (laws_toBlockS_l0_x0.fill (((), ()), (q_6, ()), ())))
def laws_toBlockS_O (k : Nat) : Oracles (List (List UInt8 × List UInt8 × List UInt8)) := ⟨fun n => bif Nat.beq n 3 then some (fun σ kx => laws_toBlockS_l0_h.get σ fun x => laws_toBlockS_l0_F k k x kx) else none, fun _ => none⟩
def fe_laws_toBlockS (k : Nat) : FE := ⟨(.sl 66 (.st (.pr .str (.pr .str .str)))), 1, (.sl 69 (.st (.pr .str (.pr .str .str)))), fun x => laws_toBlockS k x⟩
theorem laws_toBlockS_l0_ok (k : Nat) : LoopOK (mkEnv ti [(53, fe_laws_toBlock)] (lk []) pins0 pinB0) (laws_toBlockS_O k) (rdC (mkEnv ti [(53, fe_laws_toBlock)] (lk []) pins0 pinB0) [.tmp 2] (.sl 69 (.st (.pr .str (.pr .str .str))))) ((loopsOf (codeOf Try.f25)).getD 0 .skip) (fun σ kx => laws_toBlockS_l0_h.get σ fun x => laws_toBlockS_l0_F k k x kx) := by
  refine ⟨laws_toBlockS_l0_h, [(0, laws_toBlockS_l0_x0)], fun n x kx => laws_toBlockS_l0_F k n x kx, k, by kernel_rfl, by kernel_rfl, fun x kx => by kernel_rfl, ?_, fun σ kx => rfl⟩
  rintro n ⟨⟨a0, ⟨⟩, i4, ⟨⟩⟩, ⟨q_1, ⟨⟩⟩, ⟨⟩⟩ kx
  kernel_rfl
theorem ok_laws_toBlockS (k : Nat) : FnOK Try.prog 25 (fe_laws_toBlockS k) := by
  refine closed_ok (tab := [(53, fe_laws_toBlock)]) (l := []) ti_ok ti_ht mix (List.forall_mem_cons.2 ⟨ok_laws_toBlock, (List.forall_mem_nil _)⟩) (List.forall_mem_nil _) ⟨⟨Try.f25, (codeOf Try.f25), [.tmp 2], (laws_toBlockS_O k), by kernel_rfl, by kernel_rfl, by kernel_rfl, by kernel_rfl, rfl, by decide, ⟨by kernel_rfl, ?_, ?_⟩, ?_⟩⟩
  · refine loops_of (n := 1) (by kernel_rfl) fun i hi => ?_
    match i, hi with
    | 0, _ => exact loop_of (by kernel_rfl) (laws_toBlockS_l0_ok k)
    | n + 1, hi => omega
  · exact no_cuts (by kernel_rfl)
  · rintro a0
    kernel_rfl
/- 157 loop.example/g01005/spec.l01Small -/
def spec_l01Small (c0 : Int) : Option Bool := (if (decide (97 ≤ c0)) = true then some (decide (c0 ≤ 122)) else some false)
def fe_spec_l01Small : FE := ⟨(.int .u8), 1, .bool, fun x => spec_l01Small x⟩
theorem ok_spec_l01Small : FnOK Try.prog 157 (fe_spec_l01Small) := by
  refine closed_ok (tab := []) (l := []) ti_ok ti_ht mix (List.forall_mem_nil _) (List.forall_mem_nil _) ⟨⟨Try.f157, (codeOf Try.f157), [.tmp 2], (LOn Bool), by kernel_rfl, by kernel_rfl, by kernel_rfl, by kernel_rfl, rfl, by decide, ⟨by kernel_rfl, ?_, ?_⟩, ?_⟩⟩
  · exact no_loops (by kernel_rfl)
  · exact no_cuts (by kernel_rfl)
  · rintro c0
    kernel_rfl
/- 158 loop.example/g01005/spec.l01Digit -/
def spec_l01Digit (c0 : Int) : Option Bool := (if (decide (48 ≤ c0)) = true then some (decide (c0 ≤ 57)) else some false)
def fe_spec_l01Digit : FE := ⟨(.int .u8), 1, .bool, fun x => spec_l01Digit x⟩
theorem ok_spec_l01Digit : FnOK Try.prog 158 (fe_spec_l01Digit) := by
  refine closed_ok (tab := []) (l := []) ti_ok ti_ht mix (List.forall_mem_nil _) (List.forall_mem_nil _) ⟨⟨Try.f158, (codeOf Try.f158), [.tmp 2], (LOn Bool), by kernel_rfl, by kernel_rfl, by kernel_rfl, by kernel_rfl, rfl, by decide, ⟨by kernel_rfl, ?_, ?_⟩, ?_⟩⟩
  · exact no_loops (by kernel_rfl)
  · exact no_cuts (by kernel_rfl)
  · rintro c0
    kernel_rfl
/- 129 loop.example/g01005/spec.l01Name -/
def spec_l01Name_l0 (k : Nat) : Nat → (List UInt8) → Int → (Option Bool) → Option Bool
  | 0, _, _, _ => none
  | n + 1, s0, i3, e_0 => (if (decide (i3 < (List.length s0 : Int))) = true then (if 0 ≤ i3 then (s0[i3.toNat]?).bind fun b_3 => (spec_l01Small (z_u8 b_3)).bind fun r_4 => (if (!r_4) = true then (if 0 ≤ i3 then (s0[i3.toNat]?).bind fun b_5 => (spec_l01Digit (z_u8 b_5)).bind fun r_6 => (if (!r_6) = true then some false else spec_l01Name_l0 k n s0 (w_i64 (i3 + 1)) e_0) else none) else spec_l01Name_l0 k n s0 (w_i64 (i3 + 1)) e_0) else none) else e_0)
def spec_l01Name (k : Nat) (s0 : List UInt8) : Option Bool := (if (decide (s0 = [])) = true then some false else (if (decide (10 < (List.length s0 : Int))) = true then some false else (s0[0]?).bind fun b_1 => (spec_l01Small (z_u8 b_1)).bind fun r_2 => (if (!r_2) = true then some false else spec_l01Name_l0 k k s0 0 (some true))))
def spec_l01Name_l0_h : Head := ⟨[(0, (.val .str)), (3, (.val (.int .i64)))], [], []⟩
def spec_l01Name_l0_x0 : Head := ⟨[], [], []⟩
def spec_l01Name_l0_F (k n : Nat) (x : spec_l01Name_l0_h.T) (kx : Nat → St → Option Bool) : Option Bool := spec_l01Name_l0 k n x.1.1 x.1.2.1 (kx 0 (spec_l01Name_l0_x0.fill ((), (), ())))
def spec_l01Name_O (k : Nat) : Oracles Bool := ⟨fun n => bif Nat.beq n 4 then some (fun σ kx => spec_l01Name_l0_h.get σ fun x => spec_l01Name_l0_F k k x kx) else none, fun _ => none⟩
def fe_spec_l01Name (k : Nat) : FE := ⟨.str, 1, .bool, fun x => spec_l01Name k x⟩
theorem spec_l01Name_l0_ok (k : Nat) : LoopOK (mkEnv ti [(157, fe_spec_l01Small), (158, fe_spec_l01Digit)] (lk []) pins0 pinB0) (spec_l01Name_O k) (rdC (mkEnv ti [(157, fe_spec_l01Small), (158, fe_spec_l01Digit)] (lk []) pins0 pinB0) [.tmp 2] .bool) ((loopsOf (codeOf Try.f129)).getD 0 .skip) (fun σ kx => spec_l01Name_l0_h.get σ fun x => spec_l01Name_l0_F k k x kx) := by
  refine ⟨spec_l01Name_l0_h, [(0, spec_l01Name_l0_x0)], fun n x kx => spec_l01Name_l0_F k n x kx, k, by kernel_rfl, by kernel_rfl, fun x kx => by kernel_rfl, ?_, fun σ kx => rfl⟩
  rintro n ⟨⟨s0, i3, ⟨⟩⟩, ⟨⟩, ⟨⟩⟩ kx
  kernel_rfl
theorem ok_spec_l01Name (k : Nat) : FnOK Try.prog 129 (fe_spec_l01Name k) := by
  refine closed_ok (tab := [(157, fe_spec_l01Small), (158, fe_spec_l01Digit)]) (l := []) ti_ok ti_ht mix (List.forall_mem_cons.2 ⟨ok_spec_l01Small, (List.forall_mem_cons.2 ⟨ok_spec_l01Digit, (List.forall_mem_nil _)⟩)⟩) (List.forall_mem_nil _) ⟨⟨Try.f129, (codeOf Try.f129), [.tmp 2], (spec_l01Name_O k), by kernel_rfl, by kernel_rfl, by kernel_rfl, by kernel_rfl, rfl, by decide, ⟨by kernel_rfl, ?_, ?_⟩, ?_⟩⟩
  · refine loops_of (n := 1) (by kernel_rfl) fun i hi => ?_
    match i, hi with
    | 0, _ => exact loop_of (by kernel_rfl) (spec_l01Name_l0_ok k)
    | n + 1, hi => omega
  · exact no_cuts (by kernel_rfl)
  · rintro s0
    kernel_rfl
end
end Go.Proofs.Ytkopnopjbaejjaa.Ev
