/- Functions of the program, as plain ones. No conditions. -/
import Derived.Test.YtmmkijdfiaaobaaGreatG2
import Derived.KernelRfl
set_option linter.unusedVariables false
set_option maxRecDepth 100000
namespace Go.Proofs.YtmmkijdfiaaobaaGreat.Ev
open Go.RowKit
noncomputable section
/- 91 loop.example/g01005/spec.l05Ok -/
def spec_l05Ok_l1 (k : Nat) : Nat → (List (List Int)) → Int → (List Int) → Int → ((List (List Int)) → Int → Option Bool) → Option Bool
  | 0, _, _, _, _, _ => none
  | n + 1, c0, i3, s4, k5, e_2 => (if (decide (k5 < (List.length s4 : Int))) = true then (if (decide (1 < (List.length s4 : Int))) = true then (spec_l05Drop s4 k5).bind fun r_5 => (spec_l05Find k c0 r_5).bind fun r_6 => (if (decide (r_6 < 0)) = true then some false else spec_l05Ok_l1 k n c0 i3 s4 (w_i64 (k5 + 1)) e_2) else e_2 c0 i3) else e_2 c0 i3)
def spec_l05Ok_l0 (k : Nat) : Nat → (List (List Int)) → Int → (Option Bool) → Option Bool
  | 0, _, _, _ => none
  | n + 1, c0, i3, e_0 => (if (decide (i3 < (List.length c0 : Int))) = true then (if 0 ≤ i3 then (c0[i3.toNat]?).bind fun y_1 => (spec_l05Simplex k y_1).bind fun r_2 => (if (!r_2) = true then some false else (if (decide (0 < i3)) = true then (if 0 ≤ (w_i64 (i3 - 1)) then (c0[(w_i64 (i3 - 1)).toNat]?).bind fun y_3 => (spec_l05Before k y_3 y_1).bind fun r_4 => (if (!r_4) = true then some false else spec_l05Ok_l1 k k c0 i3 y_1 0 (fun c_5 i_6 => spec_l05Ok_l0 k n c_5 (w_i64 (i_6 + 1)) e_0)) else none) else spec_l05Ok_l1 k k c0 i3 y_1 0 (fun c_7 i_8 => spec_l05Ok_l0 k n c_7 (w_i64 (i_8 + 1)) e_0))) else none) else e_0)
def spec_l05Ok (k : Nat) (c0 : List (List Int)) : Option Bool := (if (decide (48 < (List.length c0 : Int))) = true then some false else spec_l05Ok_l0 k k c0 0 (some true))
def spec_l05Ok_l1_h : Head := ⟨[(0, (.val (.ptr (.st (.sl 25 (.sl 2 (.int .i64))))))), (3, (.val (.int .i64))), (4, (.val (.sl 2 (.int .i64)))), (5, (.val (.int .i64)))], [], []⟩
def spec_l05Ok_l1_x2 : Head := ⟨[(0, (.val (.ptr (.st (.sl 25 (.sl 2 (.int .i64))))))), (3, (.val (.int .i64)))], [], []⟩
def spec_l05Ok_l1_F (k n : Nat) (x : spec_l05Ok_l1_h.T) (kx : Nat → St → Option Bool) : Option Bool := spec_l05Ok_l1 k n x.1.1 x.1.2.1 x.1.2.2.1 x.1.2.2.2.1 (fun (c0 : List (List Int)) (i3 : Int) => kx 2 (spec_l05Ok_l1_x2.fill ((c0, i3, ()), (), ())))
def spec_l05Ok_l0_h : Head := ⟨[(0, (.val (.ptr (.st (.sl 25 (.sl 2 (.int .i64))))))), (3, (.val (.int .i64)))], [], []⟩
def spec_l05Ok_l0_x0 : Head := ⟨[], [], []⟩
def spec_l05Ok_l0_F (k n : Nat) (x : spec_l05Ok_l0_h.T) (kx : Nat → St → Option Bool) : Option Bool := spec_l05Ok_l0 k n x.1.1 x.1.2.1 (kx 0 (spec_l05Ok_l0_x0.fill ((), (), ())))
def spec_l05Ok_O (k : Nat) : Oracles Bool := ⟨fun n => bif Nat.beq n 10 then some (fun σ kx => spec_l05Ok_l1_h.get σ fun x => spec_l05Ok_l1_F k k x kx) else bif Nat.beq n 4 then some (fun σ kx => spec_l05Ok_l0_h.get σ fun x => spec_l05Ok_l0_F k k x kx) else none, fun _ => none⟩
def fe_spec_l05Ok (k : Nat) : FE := ⟨(.ptr (.st (.sl 25 (.sl 2 (.int .i64))))), 1, .bool, fun x => spec_l05Ok k x⟩
theorem spec_l05Ok_l1_ok (k : Nat) : LoopOK (mkEnv ti [(135, fe_spec_l05Simplex k), (136, fe_spec_l05Before k), (138, fe_spec_l05Drop), (137, fe_spec_l05Find k)] (lk []) pins0 pinB0) (spec_l05Ok_O k) (rdC (mkEnv ti [(135, fe_spec_l05Simplex k), (136, fe_spec_l05Before k), (138, fe_spec_l05Drop), (137, fe_spec_l05Find k)] (lk []) pins0 pinB0) [.tmp 2] .bool) ((loopsOf (codeOf Tryz.f91)).getD 1 .skip) (fun σ kx => spec_l05Ok_l1_h.get σ fun x => spec_l05Ok_l1_F k k x kx) := by
  refine ⟨spec_l05Ok_l1_h, [(2, spec_l05Ok_l1_x2)], fun n x kx => spec_l05Ok_l1_F k n x kx, k, by kernel_rfl, by kernel_rfl, fun x kx => by kernel_rfl, ?_, fun σ kx => rfl⟩
  rintro n ⟨⟨c0, i3, s4, k5, ⟨⟩⟩, ⟨⟩, ⟨⟩⟩ kx
  kernel_rfl
theorem spec_l05Ok_l0_ok (k : Nat) : LoopOK (mkEnv ti [(135, fe_spec_l05Simplex k), (136, fe_spec_l05Before k), (138, fe_spec_l05Drop), (137, fe_spec_l05Find k)] (lk []) pins0 pinB0) (spec_l05Ok_O k) (rdC (mkEnv ti [(135, fe_spec_l05Simplex k), (136, fe_spec_l05Before k), (138, fe_spec_l05Drop), (137, fe_spec_l05Find k)] (lk []) pins0 pinB0) [.tmp 2] .bool) ((loopsOf (codeOf Tryz.f91)).getD 0 .skip) (fun σ kx => spec_l05Ok_l0_h.get σ fun x => spec_l05Ok_l0_F k k x kx) := by
  refine ⟨spec_l05Ok_l0_h, [(0, spec_l05Ok_l0_x0)], fun n x kx => spec_l05Ok_l0_F k n x kx, k, by kernel_rfl, by kernel_rfl, fun x kx => by kernel_rfl, ?_, fun σ kx => rfl⟩
  rintro n ⟨⟨c0, i3, ⟨⟩⟩, ⟨⟩, ⟨⟩⟩ kx
  kernel_rfl
theorem ok_spec_l05Ok (k : Nat) : FnOK Tryz.prog 91 (fe_spec_l05Ok k) := by
  refine closed_ok (tab := [(135, fe_spec_l05Simplex k), (136, fe_spec_l05Before k), (138, fe_spec_l05Drop), (137, fe_spec_l05Find k)]) (l := []) ti_ok ti_ht mix (List.forall_mem_cons.2 ⟨ok_spec_l05Simplex k, (List.forall_mem_cons.2 ⟨ok_spec_l05Before k, (List.forall_mem_cons.2 ⟨ok_spec_l05Drop, (List.forall_mem_cons.2 ⟨ok_spec_l05Find k, (List.forall_mem_nil _)⟩)⟩)⟩)⟩) (List.forall_mem_nil _) ⟨⟨Tryz.f91, (codeOf Tryz.f91), [.tmp 2], (spec_l05Ok_O k), by kernel_rfl, by kernel_rfl, by kernel_rfl, by kernel_rfl, rfl, by decide, ⟨by kernel_rfl, ?_, ?_⟩, ?_⟩⟩
  · refine loops_of (n := 2) (by kernel_rfl) fun i hi => ?_
    match i, hi with
    | 0, _ => exact loop_of (by kernel_rfl) (spec_l05Ok_l0_ok k)
    | 1, _ => exact loop_of (by kernel_rfl) (spec_l05Ok_l1_ok k)
    | n + 2, hi => omega
  · exact no_cuts (by kernel_rfl)
  · rintro c0
    kernel_rfl
/- 139 loop.example/g01005/spec.l02Prime -/
def spec_l02Prime_l0 (k : Nat) : Nat → Int → Int → (Option Bool) → Option Bool
  | 0, _, _, _ => none
  | n + 1, p0, k3, e_0 => (if (decide ((w_i64 (k3 * k3)) ≤ p0)) = true then (if k3 = 0 then none else (if (decide ((Int.tmod p0 k3) = 0)) = true then some false else spec_l02Prime_l0 k n p0 (w_i64 (k3 + 1)) e_0)) else e_0)
def spec_l02Prime (k : Nat) (p0 : Int) : Option Bool := (spec_l00In p0 2 251).bind fun r_1 => (if (!r_1) = true then some false else spec_l02Prime_l0 k k p0 2 (some true))
def spec_l02Prime_l0_h : Head := ⟨[(0, (.val (.int .i64))), (3, (.val (.int .i64)))], [], []⟩
def spec_l02Prime_l0_x0 : Head := ⟨[], [], []⟩
def spec_l02Prime_l0_F (k n : Nat) (x : spec_l02Prime_l0_h.T) (kx : Nat → St → Option Bool) : Option Bool := spec_l02Prime_l0 k n x.1.1 x.1.2.1 (kx 0 (spec_l02Prime_l0_x0.fill ((), (), ())))
def spec_l02Prime_O (k : Nat) : Oracles Bool := ⟨fun n => bif Nat.beq n 4 then some (fun σ kx => spec_l02Prime_l0_h.get σ fun x => spec_l02Prime_l0_F k k x kx) else none, fun _ => none⟩
def fe_spec_l02Prime (k : Nat) : FE := ⟨(.int .i64), 1, .bool, fun x => spec_l02Prime k x⟩
theorem spec_l02Prime_l0_ok (k : Nat) : LoopOK (mkEnv ti [(97, fe_spec_l00In)] (lk []) pins0 pinB0) (spec_l02Prime_O k) (rdC (mkEnv ti [(97, fe_spec_l00In)] (lk []) pins0 pinB0) [.tmp 2] .bool) ((loopsOf (codeOf Tryz.f139)).getD 0 .skip) (fun σ kx => spec_l02Prime_l0_h.get σ fun x => spec_l02Prime_l0_F k k x kx) := by
  refine ⟨spec_l02Prime_l0_h, [(0, spec_l02Prime_l0_x0)], fun n x kx => spec_l02Prime_l0_F k n x kx, k, by kernel_rfl, by kernel_rfl, fun x kx => by kernel_rfl, ?_, fun σ kx => rfl⟩
  rintro n ⟨⟨p0, k3, ⟨⟩⟩, ⟨⟩, ⟨⟩⟩ kx
  kernel_rfl
theorem ok_spec_l02Prime (k : Nat) : FnOK Tryz.prog 139 (fe_spec_l02Prime k) := by
  refine closed_ok (tab := [(97, fe_spec_l00In)]) (l := []) ti_ok ti_ht mix (List.forall_mem_cons.2 ⟨ok_spec_l00In, (List.forall_mem_nil _)⟩) (List.forall_mem_nil _) ⟨⟨Tryz.f139, (codeOf Tryz.f139), [.tmp 2], (spec_l02Prime_O k), by kernel_rfl, by kernel_rfl, by kernel_rfl, by kernel_rfl, rfl, by decide, ⟨by kernel_rfl, ?_, ?_⟩, ?_⟩⟩
  · refine loops_of (n := 1) (by kernel_rfl) fun i hi => ?_
    match i, hi with
    | 0, _ => exact loop_of (by kernel_rfl) (spec_l02Prime_l0_ok k)
    | n + 1, hi => omega
  · exact no_cuts (by kernel_rfl)
  · rintro p0
    kernel_rfl
/- 92 loop.example/g01005/spec.ValidPrime -/
def spec_ValidPrime (k : Nat) (p0 : Int) : Option Bool := (spec_l02Prime k p0).bind fun r_1 => some r_1
def fe_spec_ValidPrime (k : Nat) : FE := ⟨(.int .i64), 1, .bool, fun x => spec_ValidPrime k x⟩
theorem ok_spec_ValidPrime (k : Nat) : FnOK Tryz.prog 92 (fe_spec_ValidPrime k) := by
  refine closed_ok (tab := [(139, fe_spec_l02Prime k)]) (l := []) ti_ok ti_ht mix (List.forall_mem_cons.2 ⟨ok_spec_l02Prime k, (List.forall_mem_nil _)⟩) (List.forall_mem_nil _) ⟨⟨Tryz.f92, (codeOf Tryz.f92), [.tmp 2], (LOn Bool), by kernel_rfl, by kernel_rfl, by kernel_rfl, by kernel_rfl, rfl, by decide, ⟨by kernel_rfl, ?_, ?_⟩, ?_⟩⟩
  · exact no_loops (by kernel_rfl)
  · exact no_cuts (by kernel_rfl)
  · rintro p0
    kernel_rfl
/- 98 loop.example/g01005/spec.l03Column -/
def spec_l03Column_l0 (k : Nat) : Nat → (List Int) → Int → Int → Int → ((List Int) → Int → Option Bool) → Option Bool
  | 0, _, _, _, _, _ => none
  | n + 1, v0, n1, p2, i7, e_0 => (if (decide (i7 < (List.length v0 : Int))) = true then (if 0 ≤ i7 then (v0[i7.toNat]?).bind fun y_1 => (spec_l00In y_1 0 (w_i64 (p2 - 1))).bind fun r_2 => (if (!r_2) = true then some false else spec_l03Column_l0 k n v0 n1 p2 (w_i64 (i7 + 1)) e_0) else none) else e_0 v0 n1)
def spec_l03Column (k : Nat) (v0 : List Int) (n1 : Int) (p2 : Int) : Option Bool := spec_l03Column_l0 k k v0 n1 p2 0 (fun v_3 n_4 => some (decide ((List.length v_3 : Int) = n_4)))
def spec_l03Column_l0_h : Head := ⟨[(0, (.val (.sl 2 (.int .i64)))), (1, (.val (.int .i64))), (2, (.val (.int .i64))), (7, (.val (.int .i64)))], [], []⟩
def spec_l03Column_l0_x0 : Head := ⟨[(0, (.val (.sl 2 (.int .i64)))), (1, (.val (.int .i64)))], [], []⟩
def spec_l03Column_l0_F (k n : Nat) (x : spec_l03Column_l0_h.T) (kx : Nat → St → Option Bool) : Option Bool := spec_l03Column_l0 k n x.1.1 x.1.2.1 x.1.2.2.1 x.1.2.2.2.1 (fun (v0 : List Int) (n1 : Int) => kx 0 (spec_l03Column_l0_x0.fill ((v0, n1, ()), (), ())))
def spec_l03Column_O (k : Nat) : Oracles Bool := ⟨fun n => bif Nat.beq n 2 then some (fun σ kx => spec_l03Column_l0_h.get σ fun x => spec_l03Column_l0_F k k x kx) else none, fun _ => none⟩
def fe_spec_l03Column (k : Nat) : FE := ⟨(.pr (.sl 2 (.int .i64)) (.pr (.int .i64) (.int .i64))), 1, .bool, fun x => spec_l03Column k x.1 x.2.1 x.2.2⟩
theorem spec_l03Column_l0_ok (k : Nat) : LoopOK (mkEnv ti [(97, fe_spec_l00In)] (lk []) pins0 pinB0) (spec_l03Column_O k) (rdC (mkEnv ti [(97, fe_spec_l00In)] (lk []) pins0 pinB0) [.tmp 6] .bool) ((loopsOf (codeOf Tryz.f98)).getD 0 .skip) (fun σ kx => spec_l03Column_l0_h.get σ fun x => spec_l03Column_l0_F k k x kx) := by
  refine ⟨spec_l03Column_l0_h, [(0, spec_l03Column_l0_x0)], fun n x kx => spec_l03Column_l0_F k n x kx, k, by kernel_rfl, by kernel_rfl, fun x kx => by kernel_rfl, ?_, fun σ kx => rfl⟩
  rintro n ⟨⟨v0, n1, p2, i7, ⟨⟩⟩, ⟨⟩, ⟨⟩⟩ kx
  kernel_rfl
theorem ok_spec_l03Column (k : Nat) : FnOK Tryz.prog 98 (fe_spec_l03Column k) := by
  refine closed_ok (tab := [(97, fe_spec_l00In)]) (l := []) ti_ok ti_ht mix (List.forall_mem_cons.2 ⟨ok_spec_l00In, (List.forall_mem_nil _)⟩) (List.forall_mem_nil _) ⟨⟨Tryz.f98, (codeOf Tryz.f98), [.tmp 6], (spec_l03Column_O k), by kernel_rfl, by kernel_rfl, by kernel_rfl, by kernel_rfl, rfl, by decide, ⟨by kernel_rfl, ?_, ?_⟩, ?_⟩⟩
  · refine loops_of (n := 1) (by kernel_rfl) fun i hi => ?_
    match i, hi with
    | 0, _ => exact loop_of (by kernel_rfl) (spec_l03Column_l0_ok k)
    | n + 1, hi => omega
  · exact no_cuts (by kernel_rfl)
  · rintro ⟨v0, n1, p2⟩
    kernel_rfl
/- 144 loop.example/g01005/spec.l05Of -/
def spec_l05Of_l0 (k : Nat) : Nat → (List (List Int)) → Int → Int → (List Int) → ((List Int) → Option (List Int)) → Option (List Int)
  | 0, _, _, _, _, _ => none
  | n + 1, c0, dimension1, i6, q_1, e_0 => (if (decide (i6 < (List.length c0 : Int))) = true then (if 0 ≤ i6 then (c0[i6.toNat]?).bind fun y_2 => (if (decide ((List.length y_2 : Int) = (w_i64 (dimension1 + 1)))) = true then (if (q_1.length + [i6].length) * 8 ≤ LIM then spec_l05Of_l0 k n c0 dimension1 (w_i64 (i6 + 1)) (q_1 ++ [i6]) e_0 else none) else spec_l05Of_l0 k n c0 dimension1 (w_i64 (i6 + 1)) q_1 e_0) else none) else e_0 q_1)
def spec_l05Of (k : Nat) (c0 : List (List Int)) (dimension1 : Int) : Option (List Int) := spec_l05Of_l0 k k c0 dimension1 0 [] (fun q_3 => some q_3)
def spec_l05Of_l0_h : Head := ⟨[(0, (.val (.ptr (.st (.sl 25 (.sl 2 (.int .i64))))))), (1, (.val (.int .i64))), (5, (.ref 64000000 [])), (6, (.val (.int .i64)))], [(64000000, 2, (.int .i64), false)], []⟩
def spec_l05Of_l0_x0 : Head := ⟨[(5, (.ref 64000000 []))], [(64000000, 2, (.int .i64), false)], []⟩
def spec_l05Of_l0_F (k n : Nat) (x : spec_l05Of_l0_h.T) (kx : Nat → St → Option (List Int)) : Option (List Int) := spec_l05Of_l0 k n x.1.1 x.1.2.1 x.1.2.2.2.1 x.2.1.1 (fun (q_3 : List Int) => kx 0 (spec_l05Of_l0_x0.fill (((), ()), (q_3, ()), ())))
def spec_l05Of_O (k : Nat) : Oracles (List Int) := ⟨fun n => bif Nat.beq n 3 then some (fun σ kx => spec_l05Of_l0_h.get σ fun x => spec_l05Of_l0_F k k x kx) else none, fun _ => none⟩
def fe_spec_l05Of (k : Nat) : FE := ⟨(.pr (.ptr (.st (.sl 25 (.sl 2 (.int .i64))))) (.int .i64)), 1, (.sl 2 (.int .i64)), fun x => spec_l05Of k x.1 x.2⟩
theorem spec_l05Of_l0_ok (k : Nat) : LoopOK (mkEnv ti [] (lk []) pins0 pinB0) (spec_l05Of_O k) (rdC (mkEnv ti [] (lk []) pins0 pinB0) [.tmp 4] (.sl 2 (.int .i64))) ((loopsOf (codeOf Tryz.f144)).getD 0 .skip) (fun σ kx => spec_l05Of_l0_h.get σ fun x => spec_l05Of_l0_F k k x kx) := by
  refine ⟨spec_l05Of_l0_h, [(0, spec_l05Of_l0_x0)], fun n x kx => spec_l05Of_l0_F k n x kx, k, by kernel_rfl, by kernel_rfl, fun x kx => by kernel_rfl, ?_, fun σ kx => rfl⟩
  rintro n ⟨⟨c0, dimension1, ⟨⟩, i6, ⟨⟩⟩, ⟨q_1, ⟨⟩⟩, ⟨⟩⟩ kx
  kernel_rfl
theorem ok_spec_l05Of (k : Nat) : FnOK Tryz.prog 144 (fe_spec_l05Of k) := by
  refine closed_ok (tab := []) (l := []) ti_ok ti_ht mix (List.forall_mem_nil _) (List.forall_mem_nil _) ⟨⟨Tryz.f144, (codeOf Tryz.f144), [.tmp 4], (spec_l05Of_O k), by kernel_rfl, by kernel_rfl, by kernel_rfl, by kernel_rfl, rfl, by decide, ⟨by kernel_rfl, ?_, ?_⟩, ?_⟩⟩
  · refine loops_of (n := 1) (by kernel_rfl) fun i hi => ?_
    match i, hi with
    | 0, _ => exact loop_of (by kernel_rfl) (spec_l05Of_l0_ok k)
    | n + 1, hi => omega
  · exact no_cuts (by kernel_rfl)
  · rintro ⟨c0, dimension1⟩
    kernel_rfl
/- 104 loop.example/g01005/spec.l09Sum -/
def spec_l09Sum_l0 (k : Nat) : Nat → (List Int) → Int → Int → (List Int) → (Int → Option Int) → Option Int
  | 0, _, _, _, _, _ => none
  | n + 1, stalks1, sum8, i9, q_2, e_0 => (if (decide (i9 < (List.length q_2 : Int))) = true then (if 0 ≤ i9 ∧ i9.toNat < List.length q_2 then (q_2[i9.toNat]?).bind fun y_3 => (if 0 ≤ y_3 then (stalks1[y_3.toNat]?).bind fun y_4 => spec_l09Sum_l0 k n stalks1 (w_i64 (sum8 + y_4)) (w_i64 (i9 + 1)) q_2 e_0 else none) else none) else e_0 sum8)
def spec_l09Sum (k : Nat) (c0 : List (List Int)) (stalks1 : List Int) (k2 : Int) : Option Int := (spec_l05Of k c0 k2).bind fun r_1 => spec_l09Sum_l0 k k stalks1 0 0 r_1 (fun sum_5 => some sum_5)
def spec_l09Sum_l0_h : Head := ⟨[(1, (.val (.sl 2 (.int .i64)))), (7, (.ref 64000000 [])), (8, (.val (.int .i64))), (9, (.val (.int .i64)))], [(64000000, 2, (.int .i64), false)], []⟩
def spec_l09Sum_l0_x0 : Head := ⟨[(8, (.val (.int .i64)))], [], []⟩
def spec_l09Sum_l0_F (k n : Nat) (x : spec_l09Sum_l0_h.T) (kx : Nat → St → Option Int) : Option Int := spec_l09Sum_l0 k n x.1.1 x.1.2.2.1 x.1.2.2.2.1 x.2.1.1 (fun (sum8 : Int) => kx 0 (spec_l09Sum_l0_x0.fill ((sum8, ()), (), ())))
def spec_l09Sum_O (k : Nat) : Oracles Int := ⟨fun n => bif Nat.beq n 4 then some (fun σ kx => spec_l09Sum_l0_h.get σ fun x => spec_l09Sum_l0_F k k x kx) else none, fun _ => none⟩
def fe_spec_l09Sum (k : Nat) : FE := ⟨(.pr (.ptr (.st (.sl 25 (.sl 2 (.int .i64))))) (.pr (.sl 2 (.int .i64)) (.int .i64))), 1, (.int .i64), fun x => spec_l09Sum k x.1 x.2.1 x.2.2⟩
theorem spec_l09Sum_l0_ok (k : Nat) : LoopOK (mkEnv ti [(144, fe_spec_l05Of k)] (lk []) pins0 pinB0) (spec_l09Sum_O k) (rdC (mkEnv ti [(144, fe_spec_l05Of k)] (lk []) pins0 pinB0) [.tmp 6] (.int .i64)) ((loopsOf (codeOf Tryz.f104)).getD 0 .skip) (fun σ kx => spec_l09Sum_l0_h.get σ fun x => spec_l09Sum_l0_F k k x kx) := by
  refine ⟨spec_l09Sum_l0_h, [(0, spec_l09Sum_l0_x0)], fun n x kx => spec_l09Sum_l0_F k n x kx, k, by kernel_rfl, by kernel_rfl, fun x kx => by kernel_rfl, ?_, fun σ kx => rfl⟩
  rintro n ⟨⟨stalks1, ⟨⟩, sum8, i9, ⟨⟩⟩, ⟨q_2, ⟨⟩⟩, ⟨⟩⟩ kx
  kernel_rfl
theorem ok_spec_l09Sum (k : Nat) : FnOK Tryz.prog 104 (fe_spec_l09Sum k) := by
  refine closed_ok (tab := [(144, fe_spec_l05Of k)]) (l := []) ti_ok ti_ht mix (List.forall_mem_cons.2 ⟨ok_spec_l05Of k, (List.forall_mem_nil _)⟩) (List.forall_mem_nil _) ⟨⟨Tryz.f104, (codeOf Tryz.f104), [.tmp 6], (spec_l09Sum_O k), by kernel_rfl, by kernel_rfl, by kernel_rfl, by kernel_rfl, rfl, by decide, ⟨by kernel_rfl, ?_, ?_⟩, ?_⟩⟩
  · refine loops_of (n := 1) (by kernel_rfl) fun i hi => ?_
    match i, hi with
    | 0, _ => exact loop_of (by kernel_rfl) (spec_l09Sum_l0_ok k)
    | n + 1, hi => omega
  · exact no_cuts (by kernel_rfl)
  · rintro ⟨c0, stalks1, k2⟩
    kernel_rfl
/- 93 loop.example/g01005/spec.l09Stalks -/
def spec_l09Stalks_l0 (k : Nat) : Nat → (List (List Int)) → (List Int) → Int → (Option Bool) → Option Bool
  | 0, _, _, _, _ => none
  | n + 1, c0, stalks1, k5, e_0 => (if (decide (k5 ≤ 3)) = true then (spec_l09Sum k c0 stalks1 k5).bind fun r_2 => (if (decide (32 < r_2)) = true then some false else spec_l09Stalks_l0 k n c0 stalks1 (w_i64 (k5 + 1)) e_0) else e_0)
def spec_l09Stalks (k : Nat) (c0 : List (List Int)) (stalks1 : List Int) : Option Bool := (spec_l03Column k stalks1 (List.length c0 : Int) 4).bind fun r_1 => (if (!r_1) = true then some false else spec_l09Stalks_l0 k k c0 stalks1 0 (some true))
def spec_l09Stalks_l0_h : Head := ⟨[(0, (.val (.ptr (.st (.sl 25 (.sl 2 (.int .i64))))))), (1, (.val (.sl 2 (.int .i64)))), (5, (.val (.int .i64)))], [], []⟩
def spec_l09Stalks_l0_x0 : Head := ⟨[], [], []⟩
def spec_l09Stalks_l0_F (k n : Nat) (x : spec_l09Stalks_l0_h.T) (kx : Nat → St → Option Bool) : Option Bool := spec_l09Stalks_l0 k n x.1.1 x.1.2.1 x.1.2.2.1 (kx 0 (spec_l09Stalks_l0_x0.fill ((), (), ())))
def spec_l09Stalks_O (k : Nat) : Oracles Bool := ⟨fun n => bif Nat.beq n 4 then some (fun σ kx => spec_l09Stalks_l0_h.get σ fun x => spec_l09Stalks_l0_F k k x kx) else none, fun _ => none⟩
def fe_spec_l09Stalks (k : Nat) : FE := ⟨(.pr (.ptr (.st (.sl 25 (.sl 2 (.int .i64))))) (.sl 2 (.int .i64))), 1, .bool, fun x => spec_l09Stalks k x.1 x.2⟩
theorem spec_l09Stalks_l0_ok (k : Nat) : LoopOK (mkEnv ti [(98, fe_spec_l03Column k), (104, fe_spec_l09Sum k)] (lk []) pins0 pinB0) (spec_l09Stalks_O k) (rdC (mkEnv ti [(98, fe_spec_l03Column k), (104, fe_spec_l09Sum k)] (lk []) pins0 pinB0) [.tmp 4] .bool) ((loopsOf (codeOf Tryz.f93)).getD 0 .skip) (fun σ kx => spec_l09Stalks_l0_h.get σ fun x => spec_l09Stalks_l0_F k k x kx) := by
  refine ⟨spec_l09Stalks_l0_h, [(0, spec_l09Stalks_l0_x0)], fun n x kx => spec_l09Stalks_l0_F k n x kx, k, by kernel_rfl, by kernel_rfl, fun x kx => by kernel_rfl, ?_, fun σ kx => rfl⟩
  rintro n ⟨⟨c0, stalks1, k5, ⟨⟩⟩, ⟨⟩, ⟨⟩⟩ kx
  kernel_rfl
theorem ok_spec_l09Stalks (k : Nat) : FnOK Tryz.prog 93 (fe_spec_l09Stalks k) := by
  refine closed_ok (tab := [(98, fe_spec_l03Column k), (104, fe_spec_l09Sum k)]) (l := []) ti_ok ti_ht mix (List.forall_mem_cons.2 ⟨ok_spec_l03Column k, (List.forall_mem_cons.2 ⟨ok_spec_l09Sum k, (List.forall_mem_nil _)⟩)⟩) (List.forall_mem_nil _) ⟨⟨Tryz.f93, (codeOf Tryz.f93), [.tmp 4], (spec_l09Stalks_O k), by kernel_rfl, by kernel_rfl, by kernel_rfl, by kernel_rfl, rfl, by decide, ⟨by kernel_rfl, ?_, ?_⟩, ?_⟩⟩
  · refine loops_of (n := 1) (by kernel_rfl) fun i hi => ?_
    match i, hi with
    | 0, _ => exact loop_of (by kernel_rfl) (spec_l09Stalks_l0_ok k)
    | n + 1, hi => omega
  · exact no_cuts (by kernel_rfl)
  · rintro ⟨c0, stalks1⟩
    kernel_rfl
/- 96 loop.example/g01005/spec.l09Place -/
def spec_l09Place_l0 (k : Nat) : Nat → (List (List Int)) → Int → Int → Int → Int → (Int → Int → Option Int) → Option Int
  | 0, _, _, _, _, _, _ => none
  | n + 1, c0, simplex1, i2, at7, k8, e_0 => (if (decide (k8 < simplex1)) = true then (if 0 ≤ k8 then (c0[k8.toNat]?).bind fun y_1 => (if (decide (1 < (List.length y_1 : Int))) = true then (if 0 ≤ k8 then (c0[k8.toNat]?).bind fun y_2 => spec_l09Place_l0 k n c0 simplex1 i2 (w_i64 (at7 + (List.length y_2 : Int))) (w_i64 (k8 + 1)) e_0 else none) else spec_l09Place_l0 k n c0 simplex1 i2 at7 (w_i64 (k8 + 1)) e_0) else none) else e_0 i2 at7)
def spec_l09Place (k : Nat) (c0 : List (List Int)) (simplex1 : Int) (i2 : Int) : Option Int := spec_l09Place_l0 k k c0 simplex1 i2 0 0 (fun i_3 at_4 => some (w_i64 (at_4 + i_3)))
def spec_l09Place_l0_h : Head := ⟨[(0, (.val (.ptr (.st (.sl 25 (.sl 2 (.int .i64))))))), (1, (.val (.int .i64))), (2, (.val (.int .i64))), (7, (.val (.int .i64))), (8, (.val (.int .i64)))], [], []⟩
def spec_l09Place_l0_x0 : Head := ⟨[(2, (.val (.int .i64))), (7, (.val (.int .i64)))], [], []⟩
def spec_l09Place_l0_F (k n : Nat) (x : spec_l09Place_l0_h.T) (kx : Nat → St → Option Int) : Option Int := spec_l09Place_l0 k n x.1.1 x.1.2.1 x.1.2.2.1 x.1.2.2.2.1 x.1.2.2.2.2.1 (fun (i2 : Int) (at7 : Int) => kx 0 (spec_l09Place_l0_x0.fill ((i2, at7, ()), (), ())))
def spec_l09Place_O (k : Nat) : Oracles Int := ⟨fun n => bif Nat.beq n 3 then some (fun σ kx => spec_l09Place_l0_h.get σ fun x => spec_l09Place_l0_F k k x kx) else none, fun _ => none⟩
def fe_spec_l09Place (k : Nat) : FE := ⟨(.pr (.ptr (.st (.sl 25 (.sl 2 (.int .i64))))) (.pr (.int .i64) (.int .i64))), 1, (.int .i64), fun x => spec_l09Place k x.1 x.2.1 x.2.2⟩
theorem spec_l09Place_l0_ok (k : Nat) : LoopOK (mkEnv ti [] (lk []) pins0 pinB0) (spec_l09Place_O k) (rdC (mkEnv ti [] (lk []) pins0 pinB0) [.tmp 6] (.int .i64)) ((loopsOf (codeOf Tryz.f96)).getD 0 .skip) (fun σ kx => spec_l09Place_l0_h.get σ fun x => spec_l09Place_l0_F k k x kx) := by
  refine ⟨spec_l09Place_l0_h, [(0, spec_l09Place_l0_x0)], fun n x kx => spec_l09Place_l0_F k n x kx, k, by kernel_rfl, by kernel_rfl, fun x kx => by kernel_rfl, ?_, fun σ kx => rfl⟩
  rintro n ⟨⟨c0, simplex1, i2, at7, k8, ⟨⟩⟩, ⟨⟩, ⟨⟩⟩ kx
  kernel_rfl
theorem ok_spec_l09Place (k : Nat) : FnOK Tryz.prog 96 (fe_spec_l09Place k) := by
  refine closed_ok (tab := []) (l := []) ti_ok ti_ht mix (List.forall_mem_nil _) (List.forall_mem_nil _) ⟨⟨Tryz.f96, (codeOf Tryz.f96), [.tmp 6], (spec_l09Place_O k), by kernel_rfl, by kernel_rfl, by kernel_rfl, by kernel_rfl, rfl, by decide, ⟨by kernel_rfl, ?_, ?_⟩, ?_⟩⟩
  · refine loops_of (n := 1) (by kernel_rfl) fun i hi => ?_
    match i, hi with
    | 0, _ => exact loop_of (by kernel_rfl) (spec_l09Place_l0_ok k)
    | n + 1, hi => omega
  · exact no_cuts (by kernel_rfl)
  · rintro ⟨c0, simplex1, i2⟩
    kernel_rfl
/- 94 loop.example/g01005/spec.l09Count -/
def spec_l09Count (k : Nat) (c0 : List (List Int)) : Option Int := (spec_l09Place k c0 (List.length c0 : Int) 0).bind fun r_1 => some r_1
def fe_spec_l09Count (k : Nat) : FE := ⟨(.ptr (.st (.sl 25 (.sl 2 (.int .i64))))), 1, (.int .i64), fun x => spec_l09Count k x⟩
theorem ok_spec_l09Count (k : Nat) : FnOK Tryz.prog 94 (fe_spec_l09Count k) := by
  refine closed_ok (tab := [(96, fe_spec_l09Place k)]) (l := []) ti_ok ti_ht mix (List.forall_mem_cons.2 ⟨ok_spec_l09Place k, (List.forall_mem_nil _)⟩) (List.forall_mem_nil _) ⟨⟨Tryz.f94, (codeOf Tryz.f94), [.tmp 2], (LOn Int), by kernel_rfl, by kernel_rfl, by kernel_rfl, by kernel_rfl, rfl, by decide, ⟨by kernel_rfl, ?_, ?_⟩, ?_⟩⟩
  · exact no_loops (by kernel_rfl)
  · exact no_cuts (by kernel_rfl)
  · rintro c0
    kernel_rfl
/- 100 loop.example/g01005/spec.l05Faces -/
def spec_l05Faces_l0 (k : Nat) : Nat → (List (List Int)) → (List Int) → Int → (List Int) → ((List Int) → Option (List Int)) → Option (List Int)
  | 0, _, _, _, _, _ => none
  | n + 1, c0, s5, i7, q_2, e_0 => (if (decide (i7 < (List.length s5 : Int))) = true then (if (decide (1 < (List.length s5 : Int))) = true then (spec_l05Drop s5 i7).bind fun r_3 => (spec_l05Find k c0 r_3).bind fun r_4 => (if (q_2.length + [r_4].length) * 8 ≤ LIM then spec_l05Faces_l0 k n c0 s5 (w_i64 (i7 + 1)) (q_2 ++ [r_4]) e_0 else none) else e_0 q_2) else e_0 q_2)
def spec_l05Faces (k : Nat) (c0 : List (List Int)) (k1 : Int) : Option (List Int) := (if 0 ≤ k1 then (c0[k1.toNat]?).bind fun y_1 => spec_l05Faces_l0 k k c0 y_1 0 [] (fun q_5 => some q_5) else none)
def spec_l05Faces_l0_h : Head := ⟨[(0, (.val (.ptr (.st (.sl 25 (.sl 2 (.int .i64))))))), (5, (.val (.sl 2 (.int .i64)))), (6, (.ref 64000000 [])), (7, (.val (.int .i64)))], [(64000000, 2, (.int .i64), false)], []⟩
def spec_l05Faces_l0_x0 : Head := ⟨[(6, (.ref 64000000 []))], [(64000000, 2, (.int .i64), false)], []⟩
def spec_l05Faces_l0_F (k n : Nat) (x : spec_l05Faces_l0_h.T) (kx : Nat → St → Option (List Int)) : Option (List Int) := spec_l05Faces_l0 k n x.1.1 x.1.2.1 x.1.2.2.2.1 x.2.1.1 (fun (q_5 : List Int) => kx 0 (spec_l05Faces_l0_x0.fill (((), ()), (q_5, ()), ())))
def spec_l05Faces_O (k : Nat) : Oracles (List Int) := ⟨fun n => bif Nat.beq n 4 then some (fun σ kx => spec_l05Faces_l0_h.get σ fun x => spec_l05Faces_l0_F k k x kx) else none, fun _ => none⟩
def fe_spec_l05Faces (k : Nat) : FE := ⟨(.pr (.ptr (.st (.sl 25 (.sl 2 (.int .i64))))) (.int .i64)), 1, (.sl 2 (.int .i64)), fun x => spec_l05Faces k x.1 x.2⟩
theorem spec_l05Faces_l0_ok (k : Nat) : LoopOK (mkEnv ti [(138, fe_spec_l05Drop), (137, fe_spec_l05Find k)] (lk []) pins0 pinB0) (spec_l05Faces_O k) (rdC (mkEnv ti [(138, fe_spec_l05Drop), (137, fe_spec_l05Find k)] (lk []) pins0 pinB0) [.tmp 4] (.sl 2 (.int .i64))) ((loopsOf (codeOf Tryz.f100)).getD 0 .skip) (fun σ kx => spec_l05Faces_l0_h.get σ fun x => spec_l05Faces_l0_F k k x kx) := by
  refine ⟨spec_l05Faces_l0_h, [(0, spec_l05Faces_l0_x0)], fun n x kx => spec_l05Faces_l0_F k n x kx, k, by kernel_rfl, by kernel_rfl, fun x kx => by kernel_rfl, ?_, fun σ kx => rfl⟩
  rintro n ⟨⟨c0, s5, ⟨⟩, i7, ⟨⟩⟩, ⟨q_2, ⟨⟩⟩, ⟨⟩⟩ kx
  kernel_rfl
theorem ok_spec_l05Faces (k : Nat) : FnOK Tryz.prog 100 (fe_spec_l05Faces k) := by
  refine closed_ok (tab := [(138, fe_spec_l05Drop), (137, fe_spec_l05Find k)]) (l := []) ti_ok ti_ht mix (List.forall_mem_cons.2 ⟨ok_spec_l05Drop, (List.forall_mem_cons.2 ⟨ok_spec_l05Find k, (List.forall_mem_nil _)⟩)⟩) (List.forall_mem_nil _) ⟨⟨Tryz.f100, (codeOf Tryz.f100), [.tmp 4], (spec_l05Faces_O k), by kernel_rfl, by kernel_rfl, by kernel_rfl, by kernel_rfl, rfl, by decide, ⟨by kernel_rfl, ?_, ?_⟩, ?_⟩⟩
  · refine loops_of (n := 1) (by kernel_rfl) fun i hi => ?_
    match i, hi with
    | 0, _ => exact loop_of (by kernel_rfl) (spec_l05Faces_l0_ok k)
    | n + 1, hi => omega
  · exact no_cuts (by kernel_rfl)
  · rintro ⟨c0, k1⟩
    kernel_rfl
/- 47 loop.example/g01005/spec.l03Ok -/
def spec_l03Ok (k : Nat) (m0 : Int × Int × Int × List Int) : Option Bool := (spec_ValidPrime k m0.1).bind fun r_1 => (if r_1 = true then (spec_l00In m0.2.1 0 32).bind fun r_2 => (if r_2 = true then (spec_l00In m0.2.2.1 0 32).bind fun r_3 => (if r_3 = true then (spec_l03Column k m0.2.2.2 (w_i64 (m0.2.1 * m0.2.2.1)) m0.1).bind fun r_4 => some r_4 else some false) else some false) else some false)
def fe_spec_l03Ok (k : Nat) : FE := ⟨(.ptr (.st (.pr (.int .i64) (.pr (.int .i64) (.pr (.int .i64) (.sl 2 (.int .i64))))))), 1, .bool, fun x => spec_l03Ok k x⟩
theorem ok_spec_l03Ok (k : Nat) : FnOK Tryz.prog 47 (fe_spec_l03Ok k) := by
  refine closed_ok (tab := [(92, fe_spec_ValidPrime k), (97, fe_spec_l00In), (98, fe_spec_l03Column k)]) (l := []) ti_ok ti_ht mix (List.forall_mem_cons.2 ⟨ok_spec_ValidPrime k, (List.forall_mem_cons.2 ⟨ok_spec_l00In, (List.forall_mem_cons.2 ⟨ok_spec_l03Column k, (List.forall_mem_nil _)⟩)⟩)⟩) (List.forall_mem_nil _) ⟨⟨Tryz.f47, (codeOf Tryz.f47), [.tmp 2], (LOn Bool), by kernel_rfl, by kernel_rfl, by kernel_rfl, by kernel_rfl, rfl, by decide, ⟨by kernel_rfl, ?_, ?_⟩, ?_⟩⟩
  · exact no_loops (by kernel_rfl)
  · exact no_cuts (by kernel_rfl)
  · rintro m0
    kernel_rfl
/- 95 loop.example/g01005/spec.l09Map -/
def spec_l09Map (k : Nat) (s0 : List (List Int) × Int × List Int × List (Int × Int × Int × List Int)) (simplex1 : Int) (i2 : Int) (m3 : Int × Int × Int × List Int) : Option Bool := (spec_l05Faces k s0.1 simplex1).bind fun r_1 => (if 0 ≤ i2 ∧ i2.toNat < List.length r_1 then (r_1[i2.toNat]?).bind fun y_2 => (spec_l03Ok k m3).bind fun r_3 => (if r_3 = true then (if (decide (m3.1 = s0.2.1)) = true then (if 0 ≤ simplex1 then (s0.2.2.1[simplex1.toNat]?).bind fun y_4 => (if (decide (m3.2.1 = y_4)) = true then (if 0 ≤ y_2 then (s0.2.2.1[y_2.toNat]?).bind fun y_5 => some (decide (m3.2.2.1 = y_5)) else none) else some false) else none) else some false) else some false) else none)
def fe_spec_l09Map (k : Nat) : FE := ⟨(.pr (.ptr (.st (.pr (.st (.sl 25 (.sl 2 (.int .i64)))) (.pr (.int .i64) (.pr (.sl 2 (.int .i64)) (.sl 49 (.st (.pr (.int .i64) (.pr (.int .i64) (.pr (.int .i64) (.sl 2 (.int .i64)))))))))))) (.pr (.int .i64) (.pr (.int .i64) (.ptr (.st (.pr (.int .i64) (.pr (.int .i64) (.pr (.int .i64) (.sl 2 (.int .i64)))))))))), 1, .bool, fun x => spec_l09Map k x.1 x.2.1 x.2.2.1 x.2.2.2⟩
theorem ok_spec_l09Map (k : Nat) : FnOK Tryz.prog 95 (fe_spec_l09Map k) := by
  refine closed_ok (tab := [(100, fe_spec_l05Faces k), (47, fe_spec_l03Ok k)]) (l := []) ti_ok ti_ht mix (List.forall_mem_cons.2 ⟨ok_spec_l05Faces k, (List.forall_mem_cons.2 ⟨ok_spec_l03Ok k, (List.forall_mem_nil _)⟩)⟩) (List.forall_mem_nil _) ⟨⟨Tryz.f95, (codeOf Tryz.f95), [.tmp 8], (LOn Bool), by kernel_rfl, by kernel_rfl, by kernel_rfl, by kernel_rfl, rfl, by decide, ⟨by kernel_rfl, ?_, ?_⟩, ?_⟩⟩
  · exact no_loops (by kernel_rfl)
  · exact no_cuts (by kernel_rfl)
  · rintro ⟨s0, simplex1, i2, m3⟩
    kernel_rfl
/- 45 loop.example/g01005/spec.l09Ok -/
def spec_l09Ok_l1 (k : Nat) : Nat → (List (List Int) × Int × List Int × List (Int × Int × Int × List Int)) → Int → Int → ((List (List Int) × Int × List Int × List (Int × Int × Int × List Int)) → Int → Option Bool) → Option Bool
  | 0, _, _, _, _ => none
  | n + 1, s0, k3, i4, e_2 => (if 0 ≤ k3 then (s0.1[k3.toNat]?).bind fun y_5 => (if (decide (i4 < (List.length y_5 : Int))) = true then (if 0 ≤ k3 then (s0.1[k3.toNat]?).bind fun y_6 => (if (decide (1 < (List.length y_6 : Int))) = true then (spec_l09Place k s0.1 k3 i4).bind fun r_7 => (if 0 ≤ r_7 then (s0.2.2.2[r_7.toNat]?).bind fun y_8 => (spec_l09Map k s0 k3 i4 y_8).bind fun r_9 => (if (!r_9) = true then some false else spec_l09Ok_l1 k n s0 k3 (w_i64 (i4 + 1)) e_2) else none) else e_2 s0 k3) else none) else e_2 s0 k3) else none)
def spec_l09Ok_l0 (k : Nat) : Nat → (List (List Int) × Int × List Int × List (Int × Int × Int × List Int)) → Int → (Option Bool) → Option Bool
  | 0, _, _, _ => none
  | n + 1, s0, k3, e_0 => (if (decide (k3 < (List.length s0.1 : Int))) = true then spec_l09Ok_l1 k k s0 k3 0 (fun s_5 k_6 => spec_l09Ok_l0 k n s_5 (w_i64 (k_6 + 1)) e_0) else e_0)
def spec_l09Ok (k : Nat) (s0 : List (List Int) × Int × List Int × List (Int × Int × Int × List Int)) : Option Bool := (spec_l05Ok k s0.1).bind fun r_1 => (if (!r_1) = true then some false else (spec_ValidPrime k s0.2.1).bind fun r_2 => (if (!r_2) = true then some false else (spec_l09Stalks k s0.1 s0.2.2.1).bind fun r_3 => (if (!r_3) = true then some false else (spec_l09Count k s0.1).bind fun r_4 => (if (!(decide ((List.length s0.2.2.2 : Int) = r_4))) = true then some false else spec_l09Ok_l0 k k s0 0 (some true)))))
def spec_l09Ok_l1_h : Head := ⟨[(0, (.val (.ptr (.st (.pr (.st (.sl 25 (.sl 2 (.int .i64)))) (.pr (.int .i64) (.pr (.sl 2 (.int .i64)) (.sl 49 (.st (.pr (.int .i64) (.pr (.int .i64) (.pr (.int .i64) (.sl 2 (.int .i64)))))))))))))), (3, (.val (.int .i64))), (4, (.val (.int .i64)))], [], []⟩
def spec_l09Ok_l1_x2 : Head := ⟨[(0, (.val (.ptr (.st (.pr (.st (.sl 25 (.sl 2 (.int .i64)))) (.pr (.int .i64) (.pr (.sl 2 (.int .i64)) (.sl 49 (.st (.pr (.int .i64) (.pr (.int .i64) (.pr (.int .i64) (.sl 2 (.int .i64)))))))))))))), (3, (.val (.int .i64)))], [], []⟩
def spec_l09Ok_l1_F (k n : Nat) (x : spec_l09Ok_l1_h.T) (kx : Nat → St → Option Bool) : Option Bool := spec_l09Ok_l1 k n x.1.1 x.1.2.1 x.1.2.2.1 (fun (s0 : List (List Int) × Int × List Int × List (Int × Int × Int × List Int)) (k3 : Int) => kx 2 (spec_l09Ok_l1_x2.fill ((s0, k3, ()), (), ())))
def spec_l09Ok_l0_h : Head := ⟨[(0, (.val (.ptr (.st (.pr (.st (.sl 25 (.sl 2 (.int .i64)))) (.pr (.int .i64) (.pr (.sl 2 (.int .i64)) (.sl 49 (.st (.pr (.int .i64) (.pr (.int .i64) (.pr (.int .i64) (.sl 2 (.int .i64)))))))))))))), (3, (.val (.int .i64)))], [], []⟩
def spec_l09Ok_l0_x0 : Head := ⟨[], [], []⟩
def spec_l09Ok_l0_F (k n : Nat) (x : spec_l09Ok_l0_h.T) (kx : Nat → St → Option Bool) : Option Bool := spec_l09Ok_l0 k n x.1.1 x.1.2.1 (kx 0 (spec_l09Ok_l0_x0.fill ((), (), ())))
def spec_l09Ok_O (k : Nat) : Oracles Bool := ⟨fun n => bif Nat.beq n 7 then some (fun σ kx => spec_l09Ok_l1_h.get σ fun x => spec_l09Ok_l1_F k k x kx) else bif Nat.beq n 4 then some (fun σ kx => spec_l09Ok_l0_h.get σ fun x => spec_l09Ok_l0_F k k x kx) else none, fun _ => none⟩
def fe_spec_l09Ok (k : Nat) : FE := ⟨(.ptr (.st (.pr (.st (.sl 25 (.sl 2 (.int .i64)))) (.pr (.int .i64) (.pr (.sl 2 (.int .i64)) (.sl 49 (.st (.pr (.int .i64) (.pr (.int .i64) (.pr (.int .i64) (.sl 2 (.int .i64)))))))))))), 1, .bool, fun x => spec_l09Ok k x⟩
theorem spec_l09Ok_l1_ok (k : Nat) : LoopOK (mkEnv ti [(91, fe_spec_l05Ok k), (92, fe_spec_ValidPrime k), (93, fe_spec_l09Stalks k), (94, fe_spec_l09Count k), (96, fe_spec_l09Place k), (95, fe_spec_l09Map k)] (lk []) pins0 pinB0) (spec_l09Ok_O k) (rdC (mkEnv ti [(91, fe_spec_l05Ok k), (92, fe_spec_ValidPrime k), (93, fe_spec_l09Stalks k), (94, fe_spec_l09Count k), (96, fe_spec_l09Place k), (95, fe_spec_l09Map k)] (lk []) pins0 pinB0) [.tmp 2] .bool) ((loopsOf (codeOf Tryz.f45)).getD 1 .skip) (fun σ kx => spec_l09Ok_l1_h.get σ fun x => spec_l09Ok_l1_F k k x kx) := by
  refine ⟨spec_l09Ok_l1_h, [(2, spec_l09Ok_l1_x2)], fun n x kx => spec_l09Ok_l1_F k n x kx, k, by kernel_rfl, by kernel_rfl, fun x kx => by kernel_rfl, ?_, fun σ kx => rfl⟩
  rintro n ⟨⟨s0, k3, i4, ⟨⟩⟩, ⟨⟩, ⟨⟩⟩ kx
  kernel_rfl
theorem spec_l09Ok_l0_ok (k : Nat) : LoopOK (mkEnv ti [(91, fe_spec_l05Ok k), (92, fe_spec_ValidPrime k), (93, fe_spec_l09Stalks k), (94, fe_spec_l09Count k), (96, fe_spec_l09Place k), (95, fe_spec_l09Map k)] (lk []) pins0 pinB0) (spec_l09Ok_O k) (rdC (mkEnv ti [(91, fe_spec_l05Ok k), (92, fe_spec_ValidPrime k), (93, fe_spec_l09Stalks k), (94, fe_spec_l09Count k), (96, fe_spec_l09Place k), (95, fe_spec_l09Map k)] (lk []) pins0 pinB0) [.tmp 2] .bool) ((loopsOf (codeOf Tryz.f45)).getD 0 .skip) (fun σ kx => spec_l09Ok_l0_h.get σ fun x => spec_l09Ok_l0_F k k x kx) := by
  refine ⟨spec_l09Ok_l0_h, [(0, spec_l09Ok_l0_x0)], fun n x kx => spec_l09Ok_l0_F k n x kx, k, by kernel_rfl, by kernel_rfl, fun x kx => by kernel_rfl, ?_, fun σ kx => rfl⟩
  rintro n ⟨⟨s0, k3, ⟨⟩⟩, ⟨⟩, ⟨⟩⟩ kx
  kernel_rfl
theorem ok_spec_l09Ok (k : Nat) : FnOK Tryz.prog 45 (fe_spec_l09Ok k) := by
  refine closed_ok (tab := [(91, fe_spec_l05Ok k), (92, fe_spec_ValidPrime k), (93, fe_spec_l09Stalks k), (94, fe_spec_l09Count k), (96, fe_spec_l09Place k), (95, fe_spec_l09Map k)]) (l := []) ti_ok ti_ht mix (List.forall_mem_cons.2 ⟨ok_spec_l05Ok k, (List.forall_mem_cons.2 ⟨ok_spec_ValidPrime k, (List.forall_mem_cons.2 ⟨ok_spec_l09Stalks k, (List.forall_mem_cons.2 ⟨ok_spec_l09Count k, (List.forall_mem_cons.2 ⟨ok_spec_l09Place k, (List.forall_mem_cons.2 ⟨ok_spec_l09Map k, (List.forall_mem_nil _)⟩)⟩)⟩)⟩)⟩)⟩) (List.forall_mem_nil _) ⟨⟨Tryz.f45, (codeOf Tryz.f45), [.tmp 2], (spec_l09Ok_O k), by kernel_rfl, by kernel_rfl, by kernel_rfl, by kernel_rfl, rfl, by decide, ⟨by kernel_rfl, ?_, ?_⟩, ?_⟩⟩
  · refine loops_of (n := 2) (by kernel_rfl) fun i hi => ?_
    match i, hi with
    | 0, _ => exact loop_of (by kernel_rfl) (spec_l09Ok_l0_ok k)
    | 1, _ => exact loop_of (by kernel_rfl) (spec_l09Ok_l1_ok k)
    | n + 2, hi => omega
  · exact no_cuts (by kernel_rfl)
  · rintro s0
    kernel_rfl
/- 46 loop.example/g01005/spec.l16Ok -/
def spec_l16Ok_l0 (k : Nat) : Nat → (Int × List (Int × Int × Int)) → Int → ((Int × List (Int × Int × Int)) → Option Bool) → Option Bool
  | 0, _, _, _ => none
  | n + 1, g0, i3, e_0 => (if (decide (i3 < (List.length g0.2 : Int))) = true then (if 0 ≤ i3 then (g0.2[i3.toNat]?).bind fun y_2 => (spec_l00In y_2.2.1 0 (w_i64 (g0.1 - 1))).bind fun r_3 => (if (!r_3) = true then some false else (spec_l00In y_2.1 0 (w_i64 (y_2.2.1 - 1))).bind fun r_4 => (if (!r_4) = true then some false else (spec_l00In y_2.2.2 1 9).bind fun r_5 => (if (!r_5) = true then some false else (if (decide (0 < i3)) = true then (if 0 ≤ (w_i64 (i3 - 1)) then (g0.2[(w_i64 (i3 - 1)).toNat]?).bind fun y_6 => (if (decide (y_2.1 < y_6.1)) = true then some false else (if 0 ≤ (w_i64 (i3 - 1)) then (g0.2[(w_i64 (i3 - 1)).toNat]?).bind fun y_7 => (if (decide (y_7.1 = y_2.1)) = true then (if 0 ≤ (w_i64 (i3 - 1)) then (g0.2[(w_i64 (i3 - 1)).toNat]?).bind fun y_8 => (if (decide (y_2.2.1 ≤ y_8.2.1)) = true then some false else spec_l16Ok_l0 k n g0 (w_i64 (i3 + 1)) e_0) else none) else spec_l16Ok_l0 k n g0 (w_i64 (i3 + 1)) e_0) else none)) else none) else spec_l16Ok_l0 k n g0 (w_i64 (i3 + 1)) e_0)))) else none) else e_0 g0)
def spec_l16Ok (k : Nat) (g0 : Int × List (Int × Int × Int)) : Option Bool := (spec_l00In g0.1 1 12).bind fun r_1 => (if (!r_1) = true then some false else spec_l16Ok_l0 k k g0 0 (fun g_9 => some (decide ((List.length g_9.2 : Int) ≤ 24))))
def spec_l16Ok_l0_h : Head := ⟨[(0, (.val (.ptr (.st (.pr (.int .i64) (.sl 128 (.st (.pr (.int .i64) (.pr (.int .i64) (.int .i64)))))))))), (3, (.val (.int .i64)))], [], []⟩
def spec_l16Ok_l0_x0 : Head := ⟨[(0, (.val (.ptr (.st (.pr (.int .i64) (.sl 128 (.st (.pr (.int .i64) (.pr (.int .i64) (.int .i64))))))))))], [], []⟩
def spec_l16Ok_l0_F (k n : Nat) (x : spec_l16Ok_l0_h.T) (kx : Nat → St → Option Bool) : Option Bool := spec_l16Ok_l0 k n x.1.1 x.1.2.1 (fun (g0 : Int × List (Int × Int × Int)) => kx 0 (spec_l16Ok_l0_x0.fill ((g0, ()), (), ())))
def spec_l16Ok_O (k : Nat) : Oracles Bool := ⟨fun n => bif Nat.beq n 4 then some (fun σ kx => spec_l16Ok_l0_h.get σ fun x => spec_l16Ok_l0_F k k x kx) else none, fun _ => none⟩
def fe_spec_l16Ok (k : Nat) : FE := ⟨(.ptr (.st (.pr (.int .i64) (.sl 128 (.st (.pr (.int .i64) (.pr (.int .i64) (.int .i64)))))))), 1, .bool, fun x => spec_l16Ok k x⟩
theorem spec_l16Ok_l0_ok (k : Nat) : LoopOK (mkEnv ti [(97, fe_spec_l00In)] (lk []) pins0 pinB0) (spec_l16Ok_O k) (rdC (mkEnv ti [(97, fe_spec_l00In)] (lk []) pins0 pinB0) [.tmp 2] .bool) ((loopsOf (codeOf Tryz.f46)).getD 0 .skip) (fun σ kx => spec_l16Ok_l0_h.get σ fun x => spec_l16Ok_l0_F k k x kx) := by
  refine ⟨spec_l16Ok_l0_h, [(0, spec_l16Ok_l0_x0)], fun n x kx => spec_l16Ok_l0_F k n x kx, k, by kernel_rfl, by kernel_rfl, fun x kx => by kernel_rfl, ?_, fun σ kx => rfl⟩
  rintro n ⟨⟨g0, i3, ⟨⟩⟩, ⟨⟩, ⟨⟩⟩ kx
  kernel_rfl
theorem ok_spec_l16Ok (k : Nat) : FnOK Tryz.prog 46 (fe_spec_l16Ok k) := by
  refine closed_ok (tab := [(97, fe_spec_l00In)]) (l := []) ti_ok ti_ht mix (List.forall_mem_cons.2 ⟨ok_spec_l00In, (List.forall_mem_nil _)⟩) (List.forall_mem_nil _) ⟨⟨Tryz.f46, (codeOf Tryz.f46), [.tmp 2], (spec_l16Ok_O k), by kernel_rfl, by kernel_rfl, by kernel_rfl, by kernel_rfl, rfl, by decide, ⟨by kernel_rfl, ?_, ?_⟩, ?_⟩⟩
  · refine loops_of (n := 1) (by kernel_rfl) fun i hi => ?_
    match i, hi with
    | 0, _ => exact loop_of (by kernel_rfl) (spec_l16Ok_l0_ok k)
    | n + 1, hi => omega
  · exact no_cuts (by kernel_rfl)
  · rintro g0
    kernel_rfl
end
end Go.Proofs.YtmmkijdfiaaobaaGreat.Ev
