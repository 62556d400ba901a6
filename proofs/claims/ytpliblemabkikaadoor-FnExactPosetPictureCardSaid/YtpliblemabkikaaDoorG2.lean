/- Functions of the program, as plain ones. No conditions. -/
import Derived.Test.YtpliblemabkikaaDoorG1
import Derived.KernelRfl
set_option linter.unusedVariables false
set_option maxRecDepth 100000
namespace Go.Proofs.YtpliblemabkikaaDoor.Ev
open Go.RowKit
noncomputable section
/- 35 loop.example/g01005/spec.l06SamePairs -/
def spec_l06SamePairs_l0 (k : Nat) : Nat → (List (List Int)) → (List (List Int)) → Int → (Option Bool) → Option Bool
  | 0, _, _, _, _ => none
  | n + 1, a0, b1, i5, e_0 => (if (decide (i5 < (List.length a0 : Int))) = true then (if 0 ≤ i5 then (a0[i5.toNat]?).bind fun y_1 => (if 0 ≤ i5 then (b1[i5.toNat]?).bind fun y_2 => (spec_l00Same k y_1 y_2).bind fun r_3 => (if (!r_3) = true then some false else spec_l06SamePairs_l0 k n a0 b1 (w_i64 (i5 + 1)) e_0) else none) else none) else e_0)
def spec_l06SamePairs (k : Nat) (a0 : List (List Int)) (b1 : List (List Int)) : Option Bool := (if (!(decide ((List.length a0 : Int) = (List.length b1 : Int)))) = true then some false else spec_l06SamePairs_l0 k k a0 b1 0 (some true))
def spec_l06SamePairs_l0_h : Head := ⟨[(0, (.val (.sl 41 (.sl 2 (.int .i64))))), (1, (.val (.sl 41 (.sl 2 (.int .i64))))), (5, (.val (.int .i64)))], [], []⟩
def spec_l06SamePairs_l0_x0 : Head := ⟨[], [], []⟩
def spec_l06SamePairs_l0_F (k n : Nat) (x : spec_l06SamePairs_l0_h.T) (kx : Nat → St → Option Bool) : Option Bool := spec_l06SamePairs_l0 k n x.1.1 x.1.2.1 x.1.2.2.1 (kx 0 (spec_l06SamePairs_l0_x0.fill ((), (), ())))
def spec_l06SamePairs_O (k : Nat) : Oracles Bool := ⟨fun n => bif Nat.beq n 4 then some (fun σ kx => spec_l06SamePairs_l0_h.get σ fun x => spec_l06SamePairs_l0_F k k x kx) else none, fun _ => none⟩
def fe_spec_l06SamePairs (k : Nat) : FE := ⟨(.pr (.sl 41 (.sl 2 (.int .i64))) (.sl 41 (.sl 2 (.int .i64)))), 1, .bool, fun x => spec_l06SamePairs k x.1 x.2⟩
theorem spec_l06SamePairs_l0_ok (k : Nat) : LoopOK (mkEnv ti [(55, fe_spec_l00Same k)] (lk []) pins0 pinB0) (spec_l06SamePairs_O k) (rdC (mkEnv ti [(55, fe_spec_l00Same k)] (lk []) pins0 pinB0) [.tmp 4] .bool) ((loopsOf (codeOf Tryd.f35)).getD 0 .skip) (fun σ kx => spec_l06SamePairs_l0_h.get σ fun x => spec_l06SamePairs_l0_F k k x kx) := by
  refine ⟨spec_l06SamePairs_l0_h, [(0, spec_l06SamePairs_l0_x0)], fun n x kx => spec_l06SamePairs_l0_F k n x kx, k, by kernel_rfl, by kernel_rfl, fun x kx => by kernel_rfl, ?_, fun σ kx => rfl⟩
  rintro n ⟨⟨a0, b1, i5, ⟨⟩⟩, ⟨⟩, ⟨⟩⟩ kx
  kernel_rfl
theorem ok_spec_l06SamePairs (k : Nat) : FnOK Tryd.prog 35 (fe_spec_l06SamePairs k) := by
  refine closed_ok (tab := [(55, fe_spec_l00Same k)]) (l := []) ti_ok ti_ht mix (List.forall_mem_cons.2 ⟨ok_spec_l00Same k, (List.forall_mem_nil _)⟩) (List.forall_mem_nil _) ⟨⟨Tryd.f35, (codeOf Tryd.f35), [.tmp 4], (spec_l06SamePairs_O k), by kernel_rfl, by kernel_rfl, by kernel_rfl, by kernel_rfl, rfl, by decide, ⟨by kernel_rfl, ?_, ?_⟩, ?_⟩⟩
  · refine loops_of (n := 1) (by kernel_rfl) fun i hi => ?_
    match i, hi with
    | 0, _ => exact loop_of (by kernel_rfl) (spec_l06SamePairs_l0_ok k)
    | n + 1, hi => omega
  · exact no_cuts (by kernel_rfl)
  · rintro ⟨a0, b1⟩
    kernel_rfl
/- 14 loop.example/g01005/spec.l06Ok -/
def spec_l06Ok (k : Nat) (p0 : Int × List (List Int)) : Option Bool := (spec_l00In p0.1 0 12).bind fun r_1 => (if (!r_1) = true then some false else (if (decide (30 < (List.length p0.2 : Int))) = true then some false else (spec_l06Pairs k p0.1 p0.2).bind fun r_2 => (if (!r_2) = true then some false else (spec_l06Table k p0.1 p0.2).bind fun r_3 => (spec_l06Covers k r_3).bind fun r_4 => (if r_4.2 = true then (spec_l06SamePairs k r_4.1 p0.2).bind fun r_5 => some r_5 else some false))))
def fe_spec_l06Ok (k : Nat) : FE := ⟨(.ptr (.st (.pr (.int .i64) (.sl 41 (.sl 2 (.int .i64)))))), 1, .bool, fun x => spec_l06Ok k x⟩
theorem ok_spec_l06Ok (k : Nat) : FnOK Tryd.prog 14 (fe_spec_l06Ok k) := by
  refine closed_ok (tab := [(31, fe_spec_l00In), (32, fe_spec_l06Pairs k), (34, fe_spec_l06Table k), (33, fe_spec_l06Covers k), (35, fe_spec_l06SamePairs k)]) (l := []) ti_ok ti_ht mix (List.forall_mem_cons.2 ⟨ok_spec_l00In, (List.forall_mem_cons.2 ⟨ok_spec_l06Pairs k, (List.forall_mem_cons.2 ⟨ok_spec_l06Table k, (List.forall_mem_cons.2 ⟨ok_spec_l06Covers k, (List.forall_mem_cons.2 ⟨ok_spec_l06SamePairs k, (List.forall_mem_nil _)⟩)⟩)⟩)⟩)⟩) (List.forall_mem_nil _) ⟨⟨Tryd.f14, (codeOf Tryd.f14), [.tmp 2], (LOn Bool), by kernel_rfl, by kernel_rfl, by kernel_rfl, by kernel_rfl, rfl, by decide, ⟨by kernel_rfl, ?_, ?_⟩, ?_⟩⟩
  · exact no_loops (by kernel_rfl)
  · exact no_cuts (by kernel_rfl)
  · rintro p0
    kernel_rfl
/- 15 loop.example/g01005/spec.l06Order -/
def spec_l06Order (k : Nat) (p0 : Int × List (List Int)) : Option (List (List Bool)) := (spec_l06Table k p0.1 p0.2).bind fun r_1 => some r_1
def fe_spec_l06Order (k : Nat) : FE := ⟨(.ptr (.st (.pr (.int .i64) (.sl 41 (.sl 2 (.int .i64)))))), 1, (.sl 43 (.sl 4 .bool)), fun x => spec_l06Order k x⟩
theorem ok_spec_l06Order (k : Nat) : FnOK Tryd.prog 15 (fe_spec_l06Order k) := by
  refine closed_ok (tab := [(34, fe_spec_l06Table k)]) (l := []) ti_ok ti_ht mix (List.forall_mem_cons.2 ⟨ok_spec_l06Table k, (List.forall_mem_nil _)⟩) (List.forall_mem_nil _) ⟨⟨Tryd.f15, (codeOf Tryd.f15), [.tmp 2], (LOn (List (List Bool))), by kernel_rfl, by kernel_rfl, by kernel_rfl, by kernel_rfl, rfl, by decide, ⟨by kernel_rfl, ?_, ?_⟩, ?_⟩⟩
  · exact no_loops (by kernel_rfl)
  · exact no_cuts (by kernel_rfl)
  · rintro p0
    kernel_rfl
/- 36 loop.example/g01005/spec.l00Has -/
def spec_l00Has_l0 (k : Nat) : Nat → (List Int) → Int → Int → (Option Bool) → Option Bool
  | 0, _, _, _, _ => none
  | n + 1, list0, n1, i5, e_0 => (if (decide (i5 < (List.length list0 : Int))) = true then (if 0 ≤ i5 then (list0[i5.toNat]?).bind fun y_1 => (if (decide (y_1 = n1)) = true then some true else spec_l00Has_l0 k n list0 n1 (w_i64 (i5 + 1)) e_0) else none) else e_0)
def spec_l00Has (k : Nat) (list0 : List Int) (n1 : Int) : Option Bool := spec_l00Has_l0 k k list0 n1 0 (some false)
def spec_l00Has_l0_h : Head := ⟨[(0, (.val (.sl 2 (.int .i64)))), (1, (.val (.int .i64))), (5, (.val (.int .i64)))], [], []⟩
def spec_l00Has_l0_x0 : Head := ⟨[], [], []⟩
def spec_l00Has_l0_F (k n : Nat) (x : spec_l00Has_l0_h.T) (kx : Nat → St → Option Bool) : Option Bool := spec_l00Has_l0 k n x.1.1 x.1.2.1 x.1.2.2.1 (kx 0 (spec_l00Has_l0_x0.fill ((), (), ())))
def spec_l00Has_O (k : Nat) : Oracles Bool := ⟨fun n => bif Nat.beq n 2 then some (fun σ kx => spec_l00Has_l0_h.get σ fun x => spec_l00Has_l0_F k k x kx) else none, fun _ => none⟩
def fe_spec_l00Has (k : Nat) : FE := ⟨(.pr (.sl 2 (.int .i64)) (.int .i64)), 1, .bool, fun x => spec_l00Has k x.1 x.2⟩
theorem spec_l00Has_l0_ok (k : Nat) : LoopOK (mkEnv ti [] (lk []) pins0 pinB0) (spec_l00Has_O k) (rdC (mkEnv ti [] (lk []) pins0 pinB0) [.tmp 4] .bool) ((loopsOf (codeOf Tryd.f36)).getD 0 .skip) (fun σ kx => spec_l00Has_l0_h.get σ fun x => spec_l00Has_l0_F k k x kx) := by
  refine ⟨spec_l00Has_l0_h, [(0, spec_l00Has_l0_x0)], fun n x kx => spec_l00Has_l0_F k n x kx, k, by kernel_rfl, by kernel_rfl, fun x kx => by kernel_rfl, ?_, fun σ kx => rfl⟩
  rintro n ⟨⟨list0, n1, i5, ⟨⟩⟩, ⟨⟩, ⟨⟩⟩ kx
  kernel_rfl
theorem ok_spec_l00Has (k : Nat) : FnOK Tryd.prog 36 (fe_spec_l00Has k) := by
  refine closed_ok (tab := []) (l := []) ti_ok ti_ht mix (List.forall_mem_nil _) (List.forall_mem_nil _) ⟨⟨Tryd.f36, (codeOf Tryd.f36), [.tmp 4], (spec_l00Has_O k), by kernel_rfl, by kernel_rfl, by kernel_rfl, by kernel_rfl, rfl, by decide, ⟨by kernel_rfl, ?_, ?_⟩, ?_⟩⟩
  · refine loops_of (n := 1) (by kernel_rfl) fun i hi => ?_
    match i, hi with
    | 0, _ => exact loop_of (by kernel_rfl) (spec_l00Has_l0_ok k)
    | n + 1, hi => omega
  · exact no_cuts (by kernel_rfl)
  · rintro ⟨list0, n1⟩
    kernel_rfl
/- 16 loop.example/g01005/spec.l06First -/
def spec_l06First_l2 (k : Nat) : Nat → (List (List Bool)) → Int → Bool → Int → (List Int) → ((List (List Bool)) → Int → Bool → (List Int) → Option (List Int)) → Option (List Int)
  | 0, _, _, _, _, _, _ => none
  | n + 1, table0, a4, ready5, b6, q_4, e_4 => (if (decide (b6 < (List.length table0 : Int))) = true then (if ready5 = true then (if (decide (b6 = a4)) = true then spec_l06First_l2 k n table0 a4 true (w_i64 (b6 + 1)) q_4 e_4 else (if 0 ≤ b6 then (table0[b6.toNat]?).bind fun y_5 => (if 0 ≤ a4 then (y_5[a4.toNat]?).bind fun y_6 => (if (!y_6) = true then spec_l06First_l2 k n table0 a4 true (w_i64 (b6 + 1)) q_4 e_4 else (spec_l00Has k q_4 b6).bind fun r_7 => spec_l06First_l2 k n table0 a4 r_7 (w_i64 (b6 + 1)) q_4 e_4) else none) else none)) else e_4 table0 a4 ready5 q_4) else e_4 table0 a4 ready5 q_4)
def spec_l06First_l1 (k : Nat) : Nat → (List (List Bool)) → Int → (List Int) → ((List (List Bool)) → (List Int) → Option (List Int)) → Option (List Int)
  | 0, _, _, _, _ => none
  | n + 1, table0, a4, q_2, e_2 => (if (decide (a4 < (List.length table0 : Int))) = true then (spec_l00Has k q_2 a4).bind fun r_3 => spec_l06First_l2 k k table0 a4 (!r_3) 0 q_2 (fun table_4 a_5 ready_6 q_7 => (if ready_6 = true then (if (q_7.length + [a_5].length) * 8 ≤ LIM then e_2 table_4 (q_7 ++ [a_5]) else none) else spec_l06First_l1 k n table_4 (w_i64 (a_5 + 1)) q_7 e_2)) else e_2 table0 q_2)
def spec_l06First_l0 (k : Nat) : Nat → (List (List Bool)) → (List Int) → ((List Int) → Option (List Int)) → Option (List Int)
  | 0, _, _, _ => none
  | n + 1, table0, q_1, e_0 => (if (decide ((List.length q_1 : Int) < (List.length table0 : Int))) = true then spec_l06First_l1 k k table0 0 q_1 (fun table_2 q_3 => spec_l06First_l0 k n table_2 q_3 e_0) else e_0 q_1)
def spec_l06First (k : Nat) (table0 : List (List Bool)) : Option (List Int) := spec_l06First_l0 k k table0 [] (fun q_4 => some q_4)
def spec_l06First_l2_h : Head := ⟨[(0, (.val (.sl 43 (.sl 4 .bool)))), (3, (.ref 64000000 [])), (4, (.val (.int .i64))), (5, (.val .bool)), (6, (.val (.int .i64)))], [(64000000, 2, (.int .i64), false)], []⟩
def spec_l06First_l2_x4 : Head := ⟨[(0, (.val (.sl 43 (.sl 4 .bool)))), (3, (.ref 64000000 [])), (4, (.val (.int .i64))), (5, (.val .bool))], [(64000000, 2, (.int .i64), false)], []⟩
def spec_l06First_l2_F (k n : Nat) (x : spec_l06First_l2_h.T) (kx : Nat → St → Option (List Int)) : Option (List Int) := spec_l06First_l2 k n x.1.1 x.1.2.2.1 x.1.2.2.2.1 x.1.2.2.2.2.1 x.2.1.1 (fun (table0 : List (List Bool)) (a4 : Int) (ready5 : Bool) (q_8 : List Int) => kx 4 (spec_l06First_l2_x4.fill ((table0, (), a4, ready5, ()), (q_8, ()), ())))
def spec_l06First_l1_h : Head := ⟨[(0, (.val (.sl 43 (.sl 4 .bool)))), (3, (.ref 64000000 [])), (4, (.val (.int .i64)))], [(64000000, 2, (.int .i64), false)], []⟩
def spec_l06First_l1_x2 : Head := ⟨[(0, (.val (.sl 43 (.sl 4 .bool)))), (3, (.ref 64000000 []))], [(64000000, 2, (.int .i64), false)], []⟩
def spec_l06First_l1_F (k n : Nat) (x : spec_l06First_l1_h.T) (kx : Nat → St → Option (List Int)) : Option (List Int) := spec_l06First_l1 k n x.1.1 x.1.2.2.1 x.2.1.1 (fun (table0 : List (List Bool)) (q_12 : List Int) => kx 2 (spec_l06First_l1_x2.fill ((table0, (), ()), (q_12, ()), ())))
def spec_l06First_l0_h : Head := ⟨[(0, (.val (.sl 43 (.sl 4 .bool)))), (3, (.ref 64000000 []))], [(64000000, 2, (.int .i64), false)], []⟩
def spec_l06First_l0_x0 : Head := ⟨[(3, (.ref 64000000 []))], [(64000000, 2, (.int .i64), false)], []⟩
def spec_l06First_l0_F (k n : Nat) (x : spec_l06First_l0_h.T) (kx : Nat → St → Option (List Int)) : Option (List Int) := spec_l06First_l0 k n x.1.1 x.2.1.1 (fun (q_10 : List Int) => kx 0 (spec_l06First_l0_x0.fill (((), ()), (q_10, ()), ())))
def spec_l06First_O (k : Nat) : Oracles (List Int) := ⟨fun n => bif Nat.beq n 8 then some (fun σ kx => spec_l06First_l2_h.get σ fun x => spec_l06First_l2_F k k x kx) else bif Nat.beq n 4 then some (fun σ kx => spec_l06First_l1_h.get σ fun x => spec_l06First_l1_F k k x kx) else bif Nat.beq n 2 then some (fun σ kx => spec_l06First_l0_h.get σ fun x => spec_l06First_l0_F k k x kx) else none, fun _ => none⟩
def fe_spec_l06First (k : Nat) : FE := ⟨(.sl 43 (.sl 4 .bool)), 1, (.sl 2 (.int .i64)), fun x => spec_l06First k x⟩
theorem spec_l06First_l2_ok (k : Nat) : LoopOK (mkEnv ti [(36, fe_spec_l00Has k)] (lk []) pins0 pinB0) (spec_l06First_O k) (rdC (mkEnv ti [(36, fe_spec_l00Has k)] (lk []) pins0 pinB0) [.tmp 2] (.sl 2 (.int .i64))) ((loopsOf (codeOf Tryd.f16)).getD 2 .skip) (fun σ kx => spec_l06First_l2_h.get σ fun x => spec_l06First_l2_F k k x kx) := by
  refine ⟨spec_l06First_l2_h, [(4, spec_l06First_l2_x4)], fun n x kx => spec_l06First_l2_F k n x kx, k, by kernel_rfl, by kernel_rfl, fun x kx => by kernel_rfl, ?_, fun σ kx => rfl⟩
  rintro n ⟨⟨table0, ⟨⟩, a4, ready5, b6, ⟨⟩⟩, ⟨q_4, ⟨⟩⟩, ⟨⟩⟩ kx
  kernel_rfl
theorem spec_l06First_l1_ok (k : Nat) : LoopOK (mkEnv ti [(36, fe_spec_l00Has k)] (lk []) pins0 pinB0) (spec_l06First_O k) (rdC (mkEnv ti [(36, fe_spec_l00Has k)] (lk []) pins0 pinB0) [.tmp 2] (.sl 2 (.int .i64))) ((loopsOf (codeOf Tryd.f16)).getD 1 .skip) (fun σ kx => spec_l06First_l1_h.get σ fun x => spec_l06First_l1_F k k x kx) := by
  refine ⟨spec_l06First_l1_h, [(2, spec_l06First_l1_x2)], fun n x kx => spec_l06First_l1_F k n x kx, k, by kernel_rfl, by kernel_rfl, fun x kx => by kernel_rfl, ?_, fun σ kx => rfl⟩
  rintro n ⟨⟨table0, ⟨⟩, a4, ⟨⟩⟩, ⟨q_2, ⟨⟩⟩, ⟨⟩⟩ kx
  kernel_rfl
theorem spec_l06First_l0_ok (k : Nat) : LoopOK (mkEnv ti [(36, fe_spec_l00Has k)] (lk []) pins0 pinB0) (spec_l06First_O k) (rdC (mkEnv ti [(36, fe_spec_l00Has k)] (lk []) pins0 pinB0) [.tmp 2] (.sl 2 (.int .i64))) ((loopsOf (codeOf Tryd.f16)).getD 0 .skip) (fun σ kx => spec_l06First_l0_h.get σ fun x => spec_l06First_l0_F k k x kx) := by
  refine ⟨spec_l06First_l0_h, [(0, spec_l06First_l0_x0)], fun n x kx => spec_l06First_l0_F k n x kx, k, by kernel_rfl, by kernel_rfl, fun x kx => by kernel_rfl, ?_, fun σ kx => rfl⟩
  rintro n ⟨⟨table0, ⟨⟩, ⟨⟩⟩, ⟨q_1, ⟨⟩⟩, ⟨⟩⟩ kx
  kernel_rfl
theorem ok_spec_l06First (k : Nat) : FnOK Tryd.prog 16 (fe_spec_l06First k) := by
  refine closed_ok (tab := [(36, fe_spec_l00Has k)]) (l := []) ti_ok ti_ht mix (List.forall_mem_cons.2 ⟨ok_spec_l00Has k, (List.forall_mem_nil _)⟩) (List.forall_mem_nil _) ⟨⟨Tryd.f16, (codeOf Tryd.f16), [.tmp 2], (spec_l06First_O k), by kernel_rfl, by kernel_rfl, by kernel_rfl, by kernel_rfl, rfl, by decide, ⟨by kernel_rfl, ?_, ?_⟩, ?_⟩⟩
  · refine loops_of (n := 3) (by kernel_rfl) fun i hi => ?_
    match i, hi with
    | 0, _ => exact loop_of (by kernel_rfl) (spec_l06First_l0_ok k)
    | 1, _ => exact loop_of (by kernel_rfl) (spec_l06First_l1_ok k)
    | 2, _ => exact loop_of (by kernel_rfl) (spec_l06First_l2_ok k)
    | n + 3, hi => omega
  · exact no_cuts (by kernel_rfl)
  · rintro table0
    kernel_rfl
/- 17 loop.example/g01005/spec.l00Max -/
def spec_l00Max (a0 : Int) (b1 : Int) : Option Int := (if (decide (b1 < a0)) = true then some a0 else some b1)
def fe_spec_l00Max : FE := ⟨(.pr (.int .i64) (.int .i64)), 1, (.int .i64), fun x => spec_l00Max x.1 x.2⟩
theorem ok_spec_l00Max : FnOK Tryd.prog 17 (fe_spec_l00Max) := by
  refine closed_ok (tab := []) (l := []) ti_ok ti_ht mix (List.forall_mem_nil _) (List.forall_mem_nil _) ⟨⟨Tryd.f17, (codeOf Tryd.f17), [.tmp 4], (LOn Int), by kernel_rfl, by kernel_rfl, by kernel_rfl, by kernel_rfl, rfl, by decide, ⟨by kernel_rfl, ?_, ?_⟩, ?_⟩⟩
  · exact no_loops (by kernel_rfl)
  · exact no_cuts (by kernel_rfl)
  · rintro ⟨a0, b1⟩
    kernel_rfl
/- 18 loop.example/g01005/spec.l01Dec -/
def spec_l01Dec_l0 (k : Nat) : Nat → Int → Int → (List Int) → (Int → (List Int) → Option (List UInt8)) → Option (List UInt8)
  | 0, _, _, _, _ => none
  | n + 1, n0, m4, q_1, e_0 => (if (!(decide (m4 = 0))) = true then (if (decide ((Int.tmod m4 10) < 0)) = true then (if (q_1.length + [(w_u8 ((w_i64 (48 + (w_i64 (0 - (Int.tmod m4 10)))))))].length) * 1 ≤ LIM then spec_l01Dec_l0 k n n0 (w_i64 (Int.tdiv m4 10)) (q_1 ++ [(w_u8 ((w_i64 (48 + (w_i64 (0 - (Int.tmod m4 10)))))))]) e_0 else none) else (if (q_1.length + [(w_u8 ((w_i64 (48 + (Int.tmod m4 10)))))].length) * 1 ≤ LIM then spec_l01Dec_l0 k n n0 (w_i64 (Int.tdiv m4 10)) (q_1 ++ [(w_u8 ((w_i64 (48 + (Int.tmod m4 10)))))]) e_0 else none)) else e_0 n0 q_1)
def spec_l01Dec_l1 (k : Nat) : Nat → Int → (List Int) → (List Int) → ((List Int) → Option (List UInt8)) → Option (List UInt8)
  | 0, _, _, _, _ => none
  | n + 1, i7, q_4, q_5, e_2 => (if (decide (0 ≤ i7)) = true then (if 0 ≤ i7 ∧ i7.toNat < List.length q_4 then (q_4[i7.toNat]?).bind fun y_6 => (if (q_5.length + [y_6].length) * 1 ≤ LIM then spec_l01Dec_l1 k n (w_i64 (i7 - 1)) q_4 (q_5 ++ [y_6]) e_2 else none) else none) else e_2 q_5)
def spec_l01Dec (k : Nat) (n0 : Int) : Option (List UInt8) := (if (decide (n0 = 0)) = true then some [48] else spec_l01Dec_l0 k k n0 n0 [] (fun n_2 q_3 => (if (decide (n_2 < 0)) = true then (if (q_3.length + [45].length) * 1 ≤ LIM then spec_l01Dec_l1 k k (w_i64 ((List.length (q_3 ++ [45]) : Int) - 1)) (q_3 ++ [45]) [] (fun q_7 => some (to_S q_7)) else none) else spec_l01Dec_l1 k k (w_i64 ((List.length q_3 : Int) - 1)) q_3 [] (fun q_8 => some (to_S q_8)))))
def spec_l01Dec_l0_h : Head := ⟨[(0, (.val (.int .i64))), (3, (.ref 64000000 [])), (4, (.val (.int .i64)))], [(64000000, 5, (.int .u8), false)], []⟩
def spec_l01Dec_l0_x0 : Head := ⟨[(0, (.val (.int .i64))), (3, (.ref 64000000 []))], [(64000000, 5, (.int .u8), false)], []⟩
def spec_l01Dec_l0_F (k n : Nat) (x : spec_l01Dec_l0_h.T) (kx : Nat → St → Option (List UInt8)) : Option (List UInt8) := spec_l01Dec_l0 k n x.1.1 x.1.2.2.1 x.2.1.1 (fun (n0 : Int) (q_2 : List Int) => kx 0 (spec_l01Dec_l0_x0.fill ((n0, (), ()), (q_2, ()), ())))
def spec_l01Dec_l1_h : Head := ⟨[(3, (.ref 64000000 [])), (6, (.ref 64000001 [])), (7, (.val (.int .i64)))], [(64000000, 5, (.int .u8), false), (64000001, 5, (.int .u8), false)], []⟩
def spec_l01Dec_l1_x2 : Head := ⟨[(6, (.ref 64000000 []))], [(64000000, 5, (.int .u8), false)], []⟩
def spec_l01Dec_l1_F (k n : Nat) (x : spec_l01Dec_l1_h.T) (kx : Nat → St → Option (List UInt8)) : Option (List UInt8) := spec_l01Dec_l1 k n x.1.2.2.1 x.2.1.1 x.2.1.2.1 (fun (q_7 : List Int) => kx 2 (spec_l01Dec_l1_x2.fill (((), ()), (q_7, ()), ())))
def spec_l01Dec_O (k : Nat) : Oracles (List UInt8) := ⟨fun n => bif Nat.beq n 5 then some (fun σ kx => spec_l01Dec_l0_h.get σ fun x => spec_l01Dec_l0_F k k x kx) else bif Nat.beq n 15 then some (fun σ kx => spec_l01Dec_l1_h.get σ fun x => spec_l01Dec_l1_F k k x kx) else none, fun _ => none⟩
def fe_spec_l01Dec (k : Nat) : FE := ⟨(.int .i64), 1, .str, fun x => spec_l01Dec k x⟩
theorem spec_l01Dec_l0_ok (k : Nat) : LoopOK (mkEnv ti [] (lk []) pins0 pinB0) (spec_l01Dec_O k) (rdC (mkEnv ti [] (lk []) pins0 pinB0) [.tmp 2] .str) ((loopsOf (codeOf Tryd.f18)).getD 0 .skip) (fun σ kx => spec_l01Dec_l0_h.get σ fun x => spec_l01Dec_l0_F k k x kx) := by
  refine ⟨spec_l01Dec_l0_h, [(0, spec_l01Dec_l0_x0)], fun n x kx => spec_l01Dec_l0_F k n x kx, k, by kernel_rfl, by kernel_rfl, fun x kx => by kernel_rfl, ?_, fun σ kx => rfl⟩
  rintro n ⟨⟨n0, ⟨⟩, m4, ⟨⟩⟩, ⟨q_1, ⟨⟩⟩, ⟨⟩⟩ kx
  kernel_rfl
theorem spec_l01Dec_l1_ok (k : Nat) : LoopOK (mkEnv ti [] (lk []) pins0 pinB0) (spec_l01Dec_O k) (rdC (mkEnv ti [] (lk []) pins0 pinB0) [.tmp 2] .str) ((loopsOf (codeOf Tryd.f18)).getD 1 .skip) (fun σ kx => spec_l01Dec_l1_h.get σ fun x => spec_l01Dec_l1_F k k x kx) := by
  refine ⟨spec_l01Dec_l1_h, [(2, spec_l01Dec_l1_x2)], fun n x kx => spec_l01Dec_l1_F k n x kx, k, by kernel_rfl, by kernel_rfl, fun x kx => by kernel_rfl, ?_, fun σ kx => rfl⟩
  rintro n ⟨⟨⟨⟩, ⟨⟩, i7, ⟨⟩⟩, ⟨q_4, q_5, ⟨⟩⟩, ⟨⟩⟩ kx
  kernel_rfl
theorem ok_spec_l01Dec (k : Nat) : FnOK Tryd.prog 18 (fe_spec_l01Dec k) := by
  refine closed_ok (tab := []) (l := []) ti_ok ti_ht mix (List.forall_mem_nil _) (List.forall_mem_nil _) ⟨⟨Tryd.f18, (codeOf Tryd.f18), [.tmp 2], (spec_l01Dec_O k), by kernel_rfl, by kernel_rfl, by kernel_rfl, by kernel_rfl, rfl, by decide, ⟨by kernel_rfl, ?_, ?_⟩, ?_⟩⟩
  · refine loops_of (n := 2) (by kernel_rfl) fun i hi => ?_
    match i, hi with
    | 0, _ => exact loop_of (by kernel_rfl) (spec_l01Dec_l0_ok k)
    | 1, _ => exact loop_of (by kernel_rfl) (spec_l01Dec_l1_ok k)
    | n + 2, hi => omega
  · exact no_cuts (by kernel_rfl)
  · rintro n0
    kernel_rfl
/- 38 loop.example/g01005/spec.l30Times -/
def spec_l30Times_l0 (k : Nat) : Nat → (List UInt8) → Int → (List UInt8) → Int → ((List UInt8) → Option (List UInt8)) → Option (List UInt8)
  | 0, _, _, _, _, _ => none
  | n + 1, c0, n1, out5, k6, e_0 => (if (decide (k6 < n1)) = true then (if out5.length + c0.length ≤ 9223372036854775807 then spec_l30Times_l0 k n c0 n1 (out5 ++ c0) (w_i64 (k6 + 1)) e_0 else none) else e_0 out5)
def spec_l30Times (k : Nat) (c0 : List UInt8) (n1 : Int) : Option (List UInt8) := spec_l30Times_l0 k k c0 n1 [] 0 (fun out_1 => some out_1)
def spec_l30Times_l0_h : Head := ⟨[(0, (.val .str)), (1, (.val (.int .i64))), (5, (.val .str)), (6, (.val (.int .i64)))], [], []⟩
def spec_l30Times_l0_x0 : Head := ⟨[(5, (.val .str))], [], []⟩
def spec_l30Times_l0_F (k n : Nat) (x : spec_l30Times_l0_h.T) (kx : Nat → St → Option (List UInt8)) : Option (List UInt8) := spec_l30Times_l0 k n x.1.1 x.1.2.1 x.1.2.2.1 x.1.2.2.2.1 (fun (out5 : List UInt8) => kx 0 (spec_l30Times_l0_x0.fill ((out5, ()), (), ())))
def spec_l30Times_O (k : Nat) : Oracles (List UInt8) := ⟨fun n => bif Nat.beq n 3 then some (fun σ kx => spec_l30Times_l0_h.get σ fun x => spec_l30Times_l0_F k k x kx) else none, fun _ => none⟩
def fe_spec_l30Times (k : Nat) : FE := ⟨(.pr .str (.int .i64)), 1, .str, fun x => spec_l30Times k x.1 x.2⟩
theorem spec_l30Times_l0_ok (k : Nat) : LoopOK (mkEnv ti [] (lk []) pins0 pinB0) (spec_l30Times_O k) (rdC (mkEnv ti [] (lk []) pins0 pinB0) [.tmp 4] .str) ((loopsOf (codeOf Tryd.f38)).getD 0 .skip) (fun σ kx => spec_l30Times_l0_h.get σ fun x => spec_l30Times_l0_F k k x kx) := by
  refine ⟨spec_l30Times_l0_h, [(0, spec_l30Times_l0_x0)], fun n x kx => spec_l30Times_l0_F k n x kx, k, by kernel_rfl, by kernel_rfl, fun x kx => by kernel_rfl, ?_, fun σ kx => rfl⟩
  rintro n ⟨⟨c0, n1, out5, k6, ⟨⟩⟩, ⟨⟩, ⟨⟩⟩ kx
  kernel_rfl
theorem ok_spec_l30Times (k : Nat) : FnOK Tryd.prog 38 (fe_spec_l30Times k) := by
  refine closed_ok (tab := []) (l := []) ti_ok ti_ht mix (List.forall_mem_nil _) (List.forall_mem_nil _) ⟨⟨Tryd.f38, (codeOf Tryd.f38), [.tmp 4], (spec_l30Times_O k), by kernel_rfl, by kernel_rfl, by kernel_rfl, by kernel_rfl, rfl, by decide, ⟨by kernel_rfl, ?_, ?_⟩, ?_⟩⟩
  · refine loops_of (n := 1) (by kernel_rfl) fun i hi => ?_
    match i, hi with
    | 0, _ => exact loop_of (by kernel_rfl) (spec_l30Times_l0_ok k)
    | n + 1, hi => omega
  · exact no_cuts (by kernel_rfl)
  · rintro ⟨c0, n1⟩
    kernel_rfl
/- 20 loop.example/g01005/spec.l30Even -/
def spec_l30Even_l0 (k : Nat) : Nat → (List (List UInt8)) → Int → Int → ((List (List UInt8)) → Int → Option (List (List UInt8))) → Option (List (List UInt8))
  | 0, _, _, _, _ => none
  | n + 1, lines0, most3, i4, e_0 => (if (decide (i4 < (List.length lines0 : Int))) = true then (if 0 ≤ i4 then (lines0[i4.toNat]?).bind fun y_1 => (if (decide (most3 < (List.length y_1 : Int))) = true then (if 0 ≤ i4 then (lines0[i4.toNat]?).bind fun y_2 => spec_l30Even_l0 k n lines0 (List.length y_2 : Int) (w_i64 (i4 + 1)) e_0 else none) else spec_l30Even_l0 k n lines0 most3 (w_i64 (i4 + 1)) e_0) else none) else e_0 lines0 most3)
def spec_l30Even_l1 (k : Nat) : Nat → (List (List UInt8)) → Int → Int → (List (List UInt8)) → ((List (List UInt8)) → Option (List (List UInt8))) → Option (List (List UInt8))
  | 0, _, _, _, _, _ => none
  | n + 1, lines0, most3, i6, q_5, e_2 => (if (decide (i6 < (List.length lines0 : Int))) = true then (if 0 ≤ i6 then (lines0[i6.toNat]?).bind fun y_6 => (if 0 ≤ i6 then (lines0[i6.toNat]?).bind fun y_7 => (spec_l30Times k [32] (w_i64 (most3 - (List.length y_7 : Int)))).bind fun r_8 => (if y_6.length + r_8.length ≤ 9223372036854775807 then (if (q_5.length + [(y_6 ++ r_8)].length) * 16 ≤ LIM then spec_l30Even_l1 k n lines0 most3 (w_i64 (i6 + 1)) (q_5 ++ [(y_6 ++ r_8)]) e_2 else none) else none) else none) else none) else e_2 q_5)
def spec_l30Even (k : Nat) (lines0 : List (List UInt8)) : Option (List (List UInt8)) := spec_l30Even_l0 k k lines0 0 0 (fun lines_3 most_4 => spec_l30Even_l1 k k lines_3 most_4 0 [] (fun q_9 => some q_9))
def spec_l30Even_l0_h : Head := ⟨[(0, (.val (.sl 9 .str))), (3, (.val (.int .i64))), (4, (.val (.int .i64)))], [], []⟩
def spec_l30Even_l0_x0 : Head := ⟨[(0, (.val (.sl 9 .str))), (3, (.val (.int .i64)))], [], []⟩
def spec_l30Even_l0_F (k n : Nat) (x : spec_l30Even_l0_h.T) (kx : Nat → St → Option (List (List UInt8))) : Option (List (List UInt8)) := spec_l30Even_l0 k n x.1.1 x.1.2.1 x.1.2.2.1 (fun (lines0 : List (List UInt8)) (most3 : Int) => kx 0 (spec_l30Even_l0_x0.fill ((lines0, most3, ()), (), ())))
def spec_l30Even_l1_h : Head := ⟨[(0, (.val (.sl 9 .str))), (3, (.val (.int .i64))), (5, (.ref 64000000 [])), (6, (.val (.int .i64)))], [(64000000, 9, .str, false)], []⟩
def spec_l30Even_l1_x2 : Head := ⟨[(5, (.ref 64000000 []))], [(64000000, 9, .str, false)], []⟩
def spec_l30Even_l1_F (k n : Nat) (x : spec_l30Even_l1_h.T) (kx : Nat → St → Option (List (List UInt8))) : Option (List (List UInt8)) := spec_l30Even_l1 k n x.1.1 x.1.2.1 x.1.2.2.2.1 x.2.1.1 (fun (q_9 : List (List UInt8)) => kx 2 (spec_l30Even_l1_x2.fill (((), ()), (q_9, ()), ())))
def spec_l30Even_O (k : Nat) : Oracles (List (List UInt8)) := ⟨fun n => bif Nat.beq n 3 then some (fun σ kx => spec_l30Even_l0_h.get σ fun x => spec_l30Even_l0_F k k x kx) else bif Nat.beq n 9 then some (fun σ kx => spec_l30Even_l1_h.get σ fun x => spec_l30Even_l1_F k k x kx) else none, fun _ => none⟩
def fe_spec_l30Even (k : Nat) : FE := ⟨(.sl 9 .str), 1, (.sl 9 .str), fun x => spec_l30Even k x⟩
theorem spec_l30Even_l0_ok (k : Nat) : LoopOK (mkEnv ti [(38, fe_spec_l30Times k)] (lk []) pins0 pinB0) (spec_l30Even_O k) (rdC (mkEnv ti [(38, fe_spec_l30Times k)] (lk []) pins0 pinB0) [.tmp 2] (.sl 9 .str)) ((loopsOf (codeOf Tryd.f20)).getD 0 .skip) (fun σ kx => spec_l30Even_l0_h.get σ fun x => spec_l30Even_l0_F k k x kx) := by
  refine ⟨spec_l30Even_l0_h, [(0, spec_l30Even_l0_x0)], fun n x kx => spec_l30Even_l0_F k n x kx, k, by kernel_rfl, by kernel_rfl, fun x kx => by kernel_rfl, ?_, fun σ kx => rfl⟩
  rintro n ⟨⟨lines0, most3, i4, ⟨⟩⟩, ⟨⟩, ⟨⟩⟩ kx
  kernel_rfl
theorem spec_l30Even_l1_ok (k : Nat) : LoopOK (mkEnv ti [(38, fe_spec_l30Times k)] (lk []) pins0 pinB0) (spec_l30Even_O k) (rdC (mkEnv ti [(38, fe_spec_l30Times k)] (lk []) pins0 pinB0) [.tmp 2] (.sl 9 .str)) ((loopsOf (codeOf Tryd.f20)).getD 1 .skip) (fun σ kx => spec_l30Even_l1_h.get σ fun x => spec_l30Even_l1_F k k x kx) := by
  refine ⟨spec_l30Even_l1_h, [(2, spec_l30Even_l1_x2)], fun n x kx => spec_l30Even_l1_F k n x kx, k, by kernel_rfl, by kernel_rfl, fun x kx => by kernel_rfl, ?_, fun σ kx => rfl⟩
  rintro n ⟨⟨lines0, most3, ⟨⟩, i6, ⟨⟩⟩, ⟨q_5, ⟨⟩⟩, ⟨⟩⟩ kx
  kernel_rfl
theorem ok_spec_l30Even (k : Nat) : FnOK Tryd.prog 20 (fe_spec_l30Even k) := by
  refine closed_ok (tab := [(38, fe_spec_l30Times k)]) (l := []) ti_ok ti_ht mix (List.forall_mem_cons.2 ⟨ok_spec_l30Times k, (List.forall_mem_nil _)⟩) (List.forall_mem_nil _) ⟨⟨Tryd.f20, (codeOf Tryd.f20), [.tmp 2], (spec_l30Even_O k), by kernel_rfl, by kernel_rfl, by kernel_rfl, by kernel_rfl, rfl, by decide, ⟨by kernel_rfl, ?_, ?_⟩, ?_⟩⟩
  · refine loops_of (n := 2) (by kernel_rfl) fun i hi => ?_
    match i, hi with
    | 0, _ => exact loop_of (by kernel_rfl) (spec_l30Even_l0_ok k)
    | 1, _ => exact loop_of (by kernel_rfl) (spec_l30Even_l1_ok k)
    | n + 2, hi => omega
  · exact no_cuts (by kernel_rfl)
  · rintro lines0
    kernel_rfl
/- 37 loop.example/g01005/spec.l30Ok -/
def spec_l30Ok_l1 (k : Nat) : Nat → (List (List UInt8)) → Int → Int → ((List (List UInt8)) → Int → Option Bool) → Option Bool
  | 0, _, _, _, _ => none
  | n + 1, lines0, i3, k4, e_2 => (if 0 ≤ i3 then (lines0[i3.toNat]?).bind fun y_4 => (if (decide (k4 < (List.length y_4 : Int))) = true then (if 0 ≤ i3 then (lines0[i3.toNat]?).bind fun y_5 => (if 0 ≤ k4 then (y_5[k4.toNat]?).bind fun b_6 => (if (decide ((z_u8 b_6) < 32)) = true then some false else (if 0 ≤ i3 then (lines0[i3.toNat]?).bind fun y_7 => (if 0 ≤ k4 then (y_7[k4.toNat]?).bind fun b_8 => (if (decide (126 < (z_u8 b_8))) = true then some false else spec_l30Ok_l1 k n lines0 i3 (w_i64 (k4 + 1)) e_2) else none) else none)) else none) else none) else e_2 lines0 i3) else none)
def spec_l30Ok_l0 (k : Nat) : Nat → (List (List UInt8)) → Int → ((List (List UInt8)) → Option Bool) → Option Bool
  | 0, _, _, _ => none
  | n + 1, lines0, i3, e_0 => (if (decide (i3 < (List.length lines0 : Int))) = true then (if 0 ≤ i3 then (lines0[i3.toNat]?).bind fun y_1 => (lines0[0]?).bind fun y_2 => (if (!(decide ((List.length y_1 : Int) = (List.length y_2 : Int)))) = true then some false else (if 0 ≤ i3 then (lines0[i3.toNat]?).bind fun y_3 => (if (decide (80 < (List.length y_3 : Int))) = true then some false else spec_l30Ok_l1 k k lines0 i3 0 (fun lines_4 i_5 => spec_l30Ok_l0 k n lines_4 (w_i64 (i_5 + 1)) e_0)) else none)) else none) else e_0 lines0)
def spec_l30Ok (k : Nat) (lines0 : List (List UInt8)) : Option Bool := spec_l30Ok_l0 k k lines0 0 (fun lines_6 => some (decide ((List.length lines_6 : Int) ≤ 60)))
def spec_l30Ok_l1_h : Head := ⟨[(0, (.val (.sl 9 .str))), (3, (.val (.int .i64))), (4, (.val (.int .i64)))], [], []⟩
def spec_l30Ok_l1_x2 : Head := ⟨[(0, (.val (.sl 9 .str))), (3, (.val (.int .i64)))], [], []⟩
def spec_l30Ok_l1_F (k n : Nat) (x : spec_l30Ok_l1_h.T) (kx : Nat → St → Option Bool) : Option Bool := spec_l30Ok_l1 k n x.1.1 x.1.2.1 x.1.2.2.1 (fun (lines0 : List (List UInt8)) (i3 : Int) => kx 2 (spec_l30Ok_l1_x2.fill ((lines0, i3, ()), (), ())))
def spec_l30Ok_l0_h : Head := ⟨[(0, (.val (.sl 9 .str))), (3, (.val (.int .i64)))], [], []⟩
def spec_l30Ok_l0_x0 : Head := ⟨[(0, (.val (.sl 9 .str)))], [], []⟩
def spec_l30Ok_l0_F (k n : Nat) (x : spec_l30Ok_l0_h.T) (kx : Nat → St → Option Bool) : Option Bool := spec_l30Ok_l0 k n x.1.1 x.1.2.1 (fun (lines0 : List (List UInt8)) => kx 0 (spec_l30Ok_l0_x0.fill ((lines0, ()), (), ())))
def spec_l30Ok_O (k : Nat) : Oracles Bool := ⟨fun n => bif Nat.beq n 7 then some (fun σ kx => spec_l30Ok_l1_h.get σ fun x => spec_l30Ok_l1_F k k x kx) else bif Nat.beq n 2 then some (fun σ kx => spec_l30Ok_l0_h.get σ fun x => spec_l30Ok_l0_F k k x kx) else none, fun _ => none⟩
def fe_spec_l30Ok (k : Nat) : FE := ⟨(.sl 9 .str), 1, .bool, fun x => spec_l30Ok k x⟩
theorem spec_l30Ok_l1_ok (k : Nat) : LoopOK (mkEnv ti [] (lk []) pins0 pinB0) (spec_l30Ok_O k) (rdC (mkEnv ti [] (lk []) pins0 pinB0) [.tmp 2] .bool) ((loopsOf (codeOf Tryd.f37)).getD 1 .skip) (fun σ kx => spec_l30Ok_l1_h.get σ fun x => spec_l30Ok_l1_F k k x kx) := by
  refine ⟨spec_l30Ok_l1_h, [(2, spec_l30Ok_l1_x2)], fun n x kx => spec_l30Ok_l1_F k n x kx, k, by kernel_rfl, by kernel_rfl, fun x kx => by kernel_rfl, ?_, fun σ kx => rfl⟩
  rintro n ⟨⟨lines0, i3, k4, ⟨⟩⟩, ⟨⟩, ⟨⟩⟩ kx
  kernel_rfl
theorem spec_l30Ok_l0_ok (k : Nat) : LoopOK (mkEnv ti [] (lk []) pins0 pinB0) (spec_l30Ok_O k) (rdC (mkEnv ti [] (lk []) pins0 pinB0) [.tmp 2] .bool) ((loopsOf (codeOf Tryd.f37)).getD 0 .skip) (fun σ kx => spec_l30Ok_l0_h.get σ fun x => spec_l30Ok_l0_F k k x kx) := by
  refine ⟨spec_l30Ok_l0_h, [(0, spec_l30Ok_l0_x0)], fun n x kx => spec_l30Ok_l0_F k n x kx, k, by kernel_rfl, by kernel_rfl, fun x kx => by kernel_rfl, ?_, fun σ kx => rfl⟩
  rintro n ⟨⟨lines0, i3, ⟨⟩⟩, ⟨⟩, ⟨⟩⟩ kx
  kernel_rfl
theorem ok_spec_l30Ok (k : Nat) : FnOK Tryd.prog 37 (fe_spec_l30Ok k) := by
  refine closed_ok (tab := []) (l := []) ti_ok ti_ht mix (List.forall_mem_nil _) (List.forall_mem_nil _) ⟨⟨Tryd.f37, (codeOf Tryd.f37), [.tmp 2], (spec_l30Ok_O k), by kernel_rfl, by kernel_rfl, by kernel_rfl, by kernel_rfl, rfl, by decide, ⟨by kernel_rfl, ?_, ?_⟩, ?_⟩⟩
  · refine loops_of (n := 2) (by kernel_rfl) fun i hi => ?_
    match i, hi with
    | 0, _ => exact loop_of (by kernel_rfl) (spec_l30Ok_l0_ok k)
    | 1, _ => exact loop_of (by kernel_rfl) (spec_l30Ok_l1_ok k)
    | n + 2, hi => omega
  · exact no_cuts (by kernel_rfl)
  · rintro lines0
    kernel_rfl
/- 19 loop.example/g01005/spec.l30Done (open) -/
def spec_l30Done_g (k : Nat) (q_1 : List (List UInt8)) : Option ((((Unit × (Int × Unit)) × Unit) × ((List (List UInt8)) × Unit) × Unit)) := (spec_l30Ok k q_1).bind fun r_2 => (if (!r_2) = true then some ((((), (5, ())), ()), ([], ()), ()) else some ((((), (0, ())), ()), (q_1, ()), ()))
def spec_l30Done_g_hi : Head := ⟨[(0, (.ref 1000000000 []))], [(1000000000, 9, .str, false)], []⟩
def spec_l30Done_g_ho : Head := ⟨[(0, (.tup (.cns (.ref 64000000 []) (.cns (.val (.int .i64)) .nl))))], [(64000000, 9, .str, false)], []⟩
def oc_spec_l30Done_g (k : Nat) : OC := ⟨spec_l30Done_g_hi, spec_l30Done_g_ho, fun x => spec_l30Done_g k x.2.1.1⟩
theorem ok_spec_l30Done_g (k : Nat) : OpenOK Tryd.prog ti 19 (oc_spec_l30Done_g k) := by
  refine give_ok (tab := [(37, fe_spec_l30Ok k)]) (l := []) (n := 2) (t := (.pr (.sl 9 .str) (.int .i64))) ti_ok ti_ht mix (List.forall_mem_cons.2 ⟨ok_spec_l30Ok k, (List.forall_mem_nil _)⟩) (List.forall_mem_nil _) ⟨by kernel_rfl, by kernel_rfl, by kernel_rfl, by kernel_rfl, Tryd.f19, (codeOf Tryd.f19), [.tmp 2, .tmp 3], (LOn ((((Unit × (Int × Unit)) × Unit) × ((List (List UInt8)) × Unit) × Unit))), by kernel_rfl, by kernel_rfl, by kernel_rfl, by kernel_rfl, by kernel_rfl, Nat.le_of_ble_eq_true (by kernel_rfl), fun pins pinB => ⟨⟨by kernel_rfl, ?_, ?_⟩, ?_⟩⟩
  · exact no_loops (by kernel_rfl)
  · exact no_cuts (by kernel_rfl)
  · rintro ⟨⟨⟨⟩, ⟨⟩⟩, ⟨q_1, ⟨⟩⟩, ⟨⟩⟩
    kernel_rfl
end
end Go.Proofs.YtpliblemabkikaaDoor.Ev
