/- Functions of the program, as plain ones. No conditions. -/
import Derived.Test.YtankbidchgcapaaGreatG3
import Derived.KernelRfl
set_option linter.unusedVariables false
set_option maxRecDepth 100000
namespace Go.Proofs.YtankbidchgcapaaGreat.Ev
open Go.RowKit
noncomputable section
/- 52 cmp.Compare[int64] -/
def cmp_Compare_int64 (x0 : Int) (y1 : Int) : Option Int := (cmp_isNaN_int64 x0).bind fun r_1 => (cmp_isNaN_int64 y1).bind fun r_2 => (if r_1 = true then (if r_2 = true then some 0 else some (-1)) else (if r_2 = true then some 1 else (if (decide (x0 < y1)) = true then some (-1) else (if (decide (y1 < x0)) = true then some 1 else some 0))))
def fe_cmp_Compare_int64 : FE := ⟨(.pr (.int .i64) (.int .i64)), 1, (.int .i64), fun x => cmp_Compare_int64 x.1 x.2⟩
theorem ok_cmp_Compare_int64 : FnOK Tryz.prog 52 (fe_cmp_Compare_int64) := by
  refine closed_ok (tab := [(85, fe_cmp_isNaN_int64)]) (l := []) ti_ok ti_ht mix (List.forall_mem_cons.2 ⟨ok_cmp_isNaN_int64, (List.forall_mem_nil _)⟩) (List.forall_mem_nil _) ⟨⟨Tryz.f52, (codeOf Tryz.f52), [.tmp 4], (LOn Int), by kernel_rfl, by kernel_rfl, by kernel_rfl, by kernel_rfl, rfl, by decide, ⟨by kernel_rfl, ?_, ?_⟩, ?_⟩⟩
  · exact no_loops (by kernel_rfl)
  · exact no_cuts (by kernel_rfl)
  · rintro ⟨x0, y1⟩
    kernel_rfl
/- 102 slices.Compare[[]int64,int64] -/
def slices_Compare_int64_l0 (k : Nat) : Nat → (List Int) → (List Int) → (List Int) → Int → Int → ((List Int) → (List Int) → Option Int) → Option Int
  | 0, _, _, _, _, _, _ => none
  | n + 1, s10, s21, x9, x10, x11, e_0 => (if (decide (x11 < x10)) = true then (if 0 ≤ x11 then (x9[x11.toNat]?).bind fun y_1 => (if (decide ((List.length s21 : Int) ≤ x11)) = true then some 1 else (if 0 ≤ x11 then (s21[x11.toNat]?).bind fun y_2 => (cmp_Compare_int64 y_1 y_2).bind fun r_3 => (if (!(decide (r_3 = 0))) = true then some r_3 else slices_Compare_int64_l0 k n s10 s21 x9 x10 (w_i64 (x11 + 1)) e_0) else none)) else none) else e_0 s10 s21)
def slices_Compare_int64 (k : Nat) (s10 : List Int) (s21 : List Int) : Option Int := slices_Compare_int64_l0 k k s10 s21 s10 (List.length s10 : Int) 0 (fun s_4 s_5 => (if (decide ((List.length s_4 : Int) < (List.length s_5 : Int))) = true then some (-1) else some 0))
def slices_Compare_int64_l0_h : Head := ⟨[(0, (.val (.sl 2 (.int .i64)))), (1, (.val (.sl 2 (.int .i64)))), (9, (.val (.sl 2 (.int .i64)))), (10, (.val (.int .i64))), (11, (.val (.int .i64)))], [], []⟩
def slices_Compare_int64_l0_x0 : Head := ⟨[(0, (.val (.sl 2 (.int .i64)))), (1, (.val (.sl 2 (.int .i64))))], [], []⟩
def slices_Compare_int64_l0_F (k n : Nat) (x : slices_Compare_int64_l0_h.T) (kx : Nat → St → Option Int) : Option Int := slices_Compare_int64_l0 k n x.1.1 x.1.2.1 x.1.2.2.1 x.1.2.2.2.1 x.1.2.2.2.2.1 (fun (s10 : List Int) (s21 : List Int) => kx 0 (slices_Compare_int64_l0_x0.fill ((s10, s21, ()), (), ())))
def slices_Compare_int64_O (k : Nat) : Oracles Int := ⟨fun n => bif Nat.beq n 2 then some (fun σ kx => slices_Compare_int64_l0_h.get σ fun x => slices_Compare_int64_l0_F k k x kx) else none, fun _ => none⟩
def fe_slices_Compare_int64 (k : Nat) : FE := ⟨(.pr (.sl 2 (.int .i64)) (.sl 2 (.int .i64))), 1, (.int .i64), fun x => slices_Compare_int64 k x.1 x.2⟩
theorem slices_Compare_int64_l0_ok (k : Nat) : LoopOK (mkEnv ti [(52, fe_cmp_Compare_int64)] (lk []) pins0 pinB0) (slices_Compare_int64_O k) (rdC (mkEnv ti [(52, fe_cmp_Compare_int64)] (lk []) pins0 pinB0) [.tmp 4] (.int .i64)) ((loopsOf (codeOf Tryz.f102)).getD 0 .skip) (fun σ kx => slices_Compare_int64_l0_h.get σ fun x => slices_Compare_int64_l0_F k k x kx) := by
  refine ⟨slices_Compare_int64_l0_h, [(0, slices_Compare_int64_l0_x0)], fun n x kx => slices_Compare_int64_l0_F k n x kx, k, by kernel_rfl, by kernel_rfl, fun x kx => by kernel_rfl, ?_, fun σ kx => rfl⟩
  rintro n ⟨⟨s10, s21, x9, x10, x11, ⟨⟩⟩, ⟨⟩, ⟨⟩⟩ kx
  kernel_rfl
theorem ok_slices_Compare_int64 (k : Nat) : FnOK Tryz.prog 102 (fe_slices_Compare_int64 k) := by
  refine closed_ok (tab := [(52, fe_cmp_Compare_int64)]) (l := []) ti_ok ti_ht mix (List.forall_mem_cons.2 ⟨ok_cmp_Compare_int64, (List.forall_mem_nil _)⟩) (List.forall_mem_nil _) ⟨⟨Tryz.f102, (codeOf Tryz.f102), [.tmp 4], (slices_Compare_int64_O k), by kernel_rfl, by kernel_rfl, by kernel_rfl, by kernel_rfl, rfl, by decide, ⟨by kernel_rfl, ?_, ?_⟩, ?_⟩⟩
  · refine loops_of (n := 1) (by kernel_rfl) fun i hi => ?_
    match i, hi with
    | 0, _ => exact loop_of (by kernel_rfl) (slices_Compare_int64_l0_ok k)
    | n + 1, hi => omega
  · exact no_cuts (by kernel_rfl)
  · rintro ⟨s10, s21⟩
    kernel_rfl
/- 51 cmp.Or[int] -/
def cmp_Or_int_l0 (k : Nat) : Nat → Int → (List Int) → Int → Int → (Int → Option Int) → Option Int
  | 0, _, _, _, _, _ => none
  | n + 1, zero3, x6, x7, x8, e_0 => (if (decide (x8 < x7)) = true then (if 0 ≤ x8 then (x6[x8.toNat]?).bind fun y_1 => (if (!(decide (y_1 = zero3))) = true then some y_1 else cmp_Or_int_l0 k n zero3 x6 x7 (w_i64 (x8 + 1)) e_0) else none) else e_0 zero3)
def cmp_Or_int (k : Nat) (vals0 : List Int) : Option Int := cmp_Or_int_l0 k k 0 vals0 (List.length vals0 : Int) 0 (fun zero_2 => some zero_2)
def cmp_Or_int_l0_h : Head := ⟨[(3, (.val (.int .i64))), (6, (.val (.sl 3 (.int .i64)))), (7, (.val (.int .i64))), (8, (.val (.int .i64)))], [], []⟩
def cmp_Or_int_l0_x0 : Head := ⟨[(3, (.val (.int .i64)))], [], []⟩
def cmp_Or_int_l0_F (k n : Nat) (x : cmp_Or_int_l0_h.T) (kx : Nat → St → Option Int) : Option Int := cmp_Or_int_l0 k n x.1.1 x.1.2.1 x.1.2.2.1 x.1.2.2.2.1 (fun (zero3 : Int) => kx 0 (cmp_Or_int_l0_x0.fill ((zero3, ()), (), ())))
def cmp_Or_int_O (k : Nat) : Oracles Int := ⟨fun n => bif Nat.beq n 3 then some (fun σ kx => cmp_Or_int_l0_h.get σ fun x => cmp_Or_int_l0_F k k x kx) else none, fun _ => none⟩
def fe_cmp_Or_int (k : Nat) : FE := ⟨(.sl 3 (.int .i64)), 1, (.int .i64), fun x => cmp_Or_int k x⟩
theorem cmp_Or_int_l0_ok (k : Nat) : LoopOK (mkEnv ti [] (lk []) pins0 pinB0) (cmp_Or_int_O k) (rdC (mkEnv ti [] (lk []) pins0 pinB0) [.tmp 2] (.int .i64)) ((loopsOf (codeOf Tryz.f51)).getD 0 .skip) (fun σ kx => cmp_Or_int_l0_h.get σ fun x => cmp_Or_int_l0_F k k x kx) := by
  refine ⟨cmp_Or_int_l0_h, [(0, cmp_Or_int_l0_x0)], fun n x kx => cmp_Or_int_l0_F k n x kx, k, by kernel_rfl, by kernel_rfl, fun x kx => by kernel_rfl, ?_, fun σ kx => rfl⟩
  rintro n ⟨⟨zero3, x6, x7, x8, ⟨⟩⟩, ⟨⟩, ⟨⟩⟩ kx
  kernel_rfl
theorem ok_cmp_Or_int (k : Nat) : FnOK Tryz.prog 51 (fe_cmp_Or_int k) := by
  refine closed_ok (tab := []) (l := []) ti_ok ti_ht mix (List.forall_mem_nil _) (List.forall_mem_nil _) ⟨⟨Tryz.f51, (codeOf Tryz.f51), [.tmp 2], (cmp_Or_int_O k), by kernel_rfl, by kernel_rfl, by kernel_rfl, by kernel_rfl, rfl, by decide, ⟨by kernel_rfl, ?_, ?_⟩, ?_⟩⟩
  · refine loops_of (n := 1) (by kernel_rfl) fun i hi => ?_
    match i, hi with
    | 0, _ => exact loop_of (by kernel_rfl) (cmp_Or_int_l0_ok k)
    | n + 1, hi => omega
  · exact no_cuts (by kernel_rfl)
  · rintro vals0
    kernel_rfl
/- 75 loop.example/g01005/impl.compareSimplices -/
def impl_compareSimplices (k : Nat) (a0 : List Int) (b1 : List Int) : Option Int := (cmp_Compare_int (List.length a0 : Int) (List.length b1 : Int)).bind fun r_1 => (slices_Compare_int64 k a0 b1).bind fun r_2 => (cmp_Or_int k [r_1, r_2]).bind fun r_3 => some r_3
def fe_impl_compareSimplices (k : Nat) : FE := ⟨(.pr (.sl 2 (.int .i64)) (.sl 2 (.int .i64))), 1, (.int .i64), fun x => impl_compareSimplices k x.1 x.2⟩
theorem ok_impl_compareSimplices (k : Nat) : FnOK Tryz.prog 75 (fe_impl_compareSimplices k) := by
  refine closed_ok (tab := [(101, fe_cmp_Compare_int), (102, fe_slices_Compare_int64 k), (51, fe_cmp_Or_int k)]) (l := []) ti_ok ti_ht mix (List.forall_mem_cons.2 ⟨ok_cmp_Compare_int, (List.forall_mem_cons.2 ⟨ok_slices_Compare_int64 k, (List.forall_mem_cons.2 ⟨ok_cmp_Or_int k, (List.forall_mem_nil _)⟩)⟩)⟩) (List.forall_mem_nil _) ⟨⟨Tryz.f75, (codeOf Tryz.f75), [.tmp 4], (LOn Int), by kernel_rfl, by kernel_rfl, by kernel_rfl, by kernel_rfl, rfl, by decide, ⟨by kernel_rfl, ?_, ?_⟩, ?_⟩⟩
  · exact no_loops (by kernel_rfl)
  · exact no_cuts (by kernel_rfl)
  · rintro ⟨a0, b1⟩
    kernel_rfl
/- 112 slices.Grow[[]int64,int64] (off the shelf) -/
def slices_Grow_int64_s (n1 : Int) (q_1 : List Int) : Option ((Unit × Unit) × (List Int × Unit) × Unit) := if 0 ≤ n1 ∧ (List.length q_1 + (n1).toNat) * 8 ≤ LIM then some (((), ()), (q_1, ()), ()) else none
def oc_slices_Grow_int64_s : OC := oc_grow 2 (.int .i64) 8
theorem ok_slices_Grow_int64_s : OpenOK Tryz.prog ti 112 oc_slices_Grow_int64_s :=
  ok_grow_at (ρ := (⟨fun n => bif Nat.beq n 4 then 112 else n, fun n => bif Nat.beq n 22 then 25 else bif Nat.beq n 25 then 2 else n, fun n => n⟩ : Go.Shelf.Ren)) ti_ok (e := 2) (t := (.int .i64)) (bytes := 8) { mixed := mix, f4 := ⟨Tryz.f112.name, by kernel_rfl, (Tryz.func112).trans (congrArg some (by kernel_rfl))⟩, t0 := Tryz.underlying0, a0 := Tryz.isAgg0, z0 := Tryz.sizeOf0, v0 := Tryz.zeroValue0, t3 := Tryz.underlying3, a3 := Tryz.isAgg3, z3 := Tryz.sizeOf3, v3 := Tryz.zeroValue3, t4 := Tryz.underlying4, a4 := Tryz.isAgg4, z4 := Tryz.sizeOf4, v4 := Tryz.zeroValue4, t9 := Tryz.underlying9, a9 := Tryz.isAgg9, z9 := Tryz.sizeOf9, v9 := Tryz.zeroValue9, t20 := Tryz.underlying20, a20 := Tryz.isAgg20, z20 := Tryz.sizeOf20, v20 := Tryz.zeroValue20, t22 := Tryz.underlying25, a22 := Tryz.isAgg25, z22 := Tryz.sizeOf25, v22 := Tryz.zeroValue25 } rfl (i := (ti[2]?).getD ⟨.oth, .un, 0⟩) (by kernel_rfl) (by kernel_rfl) (by kernel_rfl) (by kernel_rfl) (by kernel_rfl) (by kernel_rfl)
/- 104 slices.Concat[[]int64,int64] -/
def slices_Concat_int64_l0 (k : Nat) : Nat → (List (List Int)) → Int → (List (List Int)) → Int → Int → ((List (List Int)) → Int → Option (List Int)) → Option (List Int)
  | 0, _, _, _, _, _, _ => none
  | n + 1, slices0, size3, x9, x10, x11, e_0 => (if (decide (x11 < x10)) = true then (if 0 ≤ x11 then (x9[x11.toNat]?).bind fun y_1 => (if (decide ((w_i64 (size3 + (List.length y_1 : Int))) < 0)) = true then none else slices_Concat_int64_l0 k n slices0 (w_i64 (size3 + (List.length y_1 : Int))) x9 x10 (w_i64 (x11 + 1)) e_0) else none) else e_0 slices0 size3)
def slices_Concat_int64_l1 (k : Nat) : Nat → (List (List Int)) → Int → Int → (List Int) → ((List Int) → Option (List Int)) → Option (List Int)
  | 0, _, _, _, _, _ => none
  | n + 1, x25, x26, x27, q_5, e_2 => (if (decide (x27 < x26)) = true then (if 0 ≤ x27 then (x25[x27.toNat]?).bind fun y_6 => (if (q_5.length + y_6.length) * 8 ≤ LIM then slices_Concat_int64_l1 k n x25 x26 (w_i64 (x27 + 1)) (q_5 ++ y_6) e_2 else none) else none) else e_2 q_5)
def slices_Concat_int64 (k : Nat) (slices0 : List (List Int)) : Option (List Int) := slices_Concat_int64_l0 k k slices0 0 slices0 (List.length slices0 : Int) 0 (fun slices_2 size_3 => (slices_Grow_int64_s size_3 []).bind fun y_4 => slices_Concat_int64_l1 k k slices_2 (List.length slices_2 : Int) 0 y_4.2.1.1 (fun q_7 => some q_7))
def slices_Concat_int64_l0_h : Head := ⟨[(0, (.val (.sl 25 (.sl 2 (.int .i64))))), (3, (.val (.int .i64))), (9, (.val (.sl 25 (.sl 2 (.int .i64))))), (10, (.val (.int .i64))), (11, (.val (.int .i64)))], [], []⟩
def slices_Concat_int64_l0_x0 : Head := ⟨[(0, (.val (.sl 25 (.sl 2 (.int .i64))))), (3, (.val (.int .i64)))], [], []⟩
def slices_Concat_int64_l0_F (k n : Nat) (x : slices_Concat_int64_l0_h.T) (kx : Nat → St → Option (List Int)) : Option (List Int) := slices_Concat_int64_l0 k n x.1.1 x.1.2.1 x.1.2.2.1 x.1.2.2.2.1 x.1.2.2.2.2.1 (fun (slices0 : List (List Int)) (size3 : Int) => kx 0 (slices_Concat_int64_l0_x0.fill ((slices0, size3, ()), (), ())))
def slices_Concat_int64_l1_h : Head := ⟨[(6, (.ref 64000000 [])), (25, (.val (.sl 25 (.sl 2 (.int .i64))))), (26, (.val (.int .i64))), (27, (.val (.int .i64)))], [(64000000, 2, (.int .i64), false)], []⟩
def slices_Concat_int64_l1_x2 : Head := ⟨[(6, (.ref 64000000 []))], [(64000000, 2, (.int .i64), false)], []⟩
def slices_Concat_int64_l1_F (k n : Nat) (x : slices_Concat_int64_l1_h.T) (kx : Nat → St → Option (List Int)) : Option (List Int) := slices_Concat_int64_l1 k n x.1.2.1 x.1.2.2.1 x.1.2.2.2.1 x.2.1.1 (fun (q_7 : List Int) => kx 2 (slices_Concat_int64_l1_x2.fill (((), ()), (q_7, ()), ())))
def slices_Concat_int64_O (k : Nat) : Oracles (List Int) := ⟨fun n => bif Nat.beq n 3 then some (fun σ kx => slices_Concat_int64_l0_h.get σ fun x => slices_Concat_int64_l0_F k k x kx) else bif Nat.beq n 11 then some (fun σ kx => slices_Concat_int64_l1_h.get σ fun x => slices_Concat_int64_l1_F k k x kx) else none, fun _ => none⟩
def fe_slices_Concat_int64 (k : Nat) : FE := ⟨(.sl 25 (.sl 2 (.int .i64))), 1, (.sl 2 (.int .i64)), fun x => slices_Concat_int64 k x⟩
theorem slices_Concat_int64_l0_ok (k : Nat) : LoopOK (mkEnv ti [] (lk [(24, 112, oc_slices_Grow_int64_s)]) pins0 pinB0) (slices_Concat_int64_O k) (rdC (mkEnv ti [] (lk [(24, 112, oc_slices_Grow_int64_s)]) pins0 pinB0) [.tmp 2] (.sl 2 (.int .i64))) ((loopsOf (codeOf Tryz.f104)).getD 0 .skip) (fun σ kx => slices_Concat_int64_l0_h.get σ fun x => slices_Concat_int64_l0_F k k x kx) := by
  refine ⟨slices_Concat_int64_l0_h, [(0, slices_Concat_int64_l0_x0)], fun n x kx => slices_Concat_int64_l0_F k n x kx, k, by kernel_rfl, by kernel_rfl, fun x kx => by kernel_rfl, ?_, fun σ kx => rfl⟩
  rintro n ⟨⟨slices0, size3, x9, x10, x11, ⟨⟩⟩, ⟨⟩, ⟨⟩⟩ kx
  kernel_rfl
theorem slices_Concat_int64_l1_ok (k : Nat) : LoopOK (mkEnv ti [] (lk [(24, 112, oc_slices_Grow_int64_s)]) pins0 pinB0) (slices_Concat_int64_O k) (rdC (mkEnv ti [] (lk [(24, 112, oc_slices_Grow_int64_s)]) pins0 pinB0) [.tmp 2] (.sl 2 (.int .i64))) ((loopsOf (codeOf Tryz.f104)).getD 1 .skip) (fun σ kx => slices_Concat_int64_l1_h.get σ fun x => slices_Concat_int64_l1_F k k x kx) := by
  refine ⟨slices_Concat_int64_l1_h, [(2, slices_Concat_int64_l1_x2)], fun n x kx => slices_Concat_int64_l1_F k n x kx, k, by kernel_rfl, by kernel_rfl, fun x kx => by kernel_rfl, ?_, fun σ kx => rfl⟩
  rintro n ⟨⟨⟨⟩, x25, x26, x27, ⟨⟩⟩, ⟨q_5, ⟨⟩⟩, ⟨⟩⟩ kx
  kernel_rfl
theorem ok_slices_Concat_int64 (k : Nat) : FnOK Tryz.prog 104 (fe_slices_Concat_int64 k) := by
  refine closed_ok (tab := []) (l := [(24, 112, oc_slices_Grow_int64_s)]) ti_ok ti_ht mix (List.forall_mem_nil _) (List.forall_mem_cons.2 ⟨ok_slices_Grow_int64_s, (List.forall_mem_nil _)⟩) ⟨⟨Tryz.f104, (codeOf Tryz.f104), [.tmp 2], (slices_Concat_int64_O k), by kernel_rfl, by kernel_rfl, by kernel_rfl, by kernel_rfl, rfl, by decide, ⟨by kernel_rfl, ?_, ?_⟩, ?_⟩⟩
  · refine loops_of (n := 2) (by kernel_rfl) fun i hi => ?_
    match i, hi with
    | 0, _ => exact loop_of (by kernel_rfl) (slices_Concat_int64_l0_ok k)
    | 1, _ => exact loop_of (by kernel_rfl) (slices_Concat_int64_l1_ok k)
    | n + 2, hi => omega
  · exact no_cuts (by kernel_rfl)
  · rintro slices0
    kernel_rfl
/- 77 loop.example/g01005/impl.facesOf -/
def impl_facesOf_l0 (k : Nat) : Nat → (List Int) → Int → Int → (List (List Int)) → ((List (List Int)) → Option (List (List Int))) → Option (List (List Int))
  | 0, _, _, _, _, _ => none
  | n + 1, s0, x6, x7, q_1, e_0 => (if (decide (x7 < x6)) = true then (if (decide (1 < (List.length s0 : Int))) = true then (if 0 ≤ (0 : Int) ∧ (0 : Int) ≤ x7 ∧ x7 ≤ s0.length then (if 0 ≤ (w_i64 (x7 + 1)) ∧ (w_i64 (x7 + 1)) ≤ (s0.length : Int) ∧ (s0.length : Int) ≤ s0.length then (slices_Concat_int64 k [(s0.take x7.toNat), ((s0.drop ((w_i64 (x7 + 1)).toNat)).take (s0.length - (w_i64 (x7 + 1)).toNat))]).bind fun r_2 => (if (q_1.length + [r_2].length) * 24 ≤ LIM then impl_facesOf_l0 k n s0 x6 (w_i64 (x7 + 1)) (q_1 ++ [r_2]) e_0 else none) else none) else none) else impl_facesOf_l0 k n s0 x6 (w_i64 (x7 + 1)) q_1 e_0) else e_0 q_1)
def impl_facesOf (k : Nat) (s0 : List Int) : Option (List (List Int)) := impl_facesOf_l0 k k s0 (List.length s0 : Int) 0 [] (fun q_3 => some q_3)
def impl_facesOf_l0_h : Head := ⟨[(0, (.val (.sl 2 (.int .i64)))), (3, (.ref 64000000 [])), (6, (.val (.int .i64))), (7, (.val (.int .i64)))], [(64000000, 25, (.sl 2 (.int .i64)), false)], []⟩
def impl_facesOf_l0_x0 : Head := ⟨[(3, (.ref 64000000 []))], [(64000000, 25, (.sl 2 (.int .i64)), false)], []⟩
def impl_facesOf_l0_F (k n : Nat) (x : impl_facesOf_l0_h.T) (kx : Nat → St → Option (List (List Int))) : Option (List (List Int)) := impl_facesOf_l0 k n x.1.1 x.1.2.2.1 x.1.2.2.2.1 x.2.1.1 (fun (q_3 : List (List Int)) => kx 0 (impl_facesOf_l0_x0.fill (((), ()), (q_3, ()), ())))
def impl_facesOf_O (k : Nat) : Oracles (List (List Int)) := ⟨fun n => bif Nat.beq n 3 then some (fun σ kx => impl_facesOf_l0_h.get σ fun x => impl_facesOf_l0_F k k x kx) else none, fun _ => none⟩
def fe_impl_facesOf (k : Nat) : FE := ⟨(.sl 2 (.int .i64)), 1, (.sl 25 (.sl 2 (.int .i64))), fun x => impl_facesOf k x⟩
theorem impl_facesOf_l0_ok (k : Nat) : LoopOK (mkEnv ti [(104, fe_slices_Concat_int64 k)] (lk []) pins0 pinB0) (impl_facesOf_O k) (rdC (mkEnv ti [(104, fe_slices_Concat_int64 k)] (lk []) pins0 pinB0) [.tmp 2] (.sl 25 (.sl 2 (.int .i64)))) ((loopsOf (codeOf Tryz.f77)).getD 0 .skip) (fun σ kx => impl_facesOf_l0_h.get σ fun x => impl_facesOf_l0_F k k x kx) := by
  refine ⟨impl_facesOf_l0_h, [(0, impl_facesOf_l0_x0)], fun n x kx => impl_facesOf_l0_F k n x kx, k, by kernel_rfl, by kernel_rfl, fun x kx => by kernel_rfl, ?_, fun σ kx => rfl⟩
  rintro n ⟨⟨s0, ⟨⟩, x6, x7, ⟨⟩⟩, ⟨q_1, ⟨⟩⟩, ⟨⟩⟩ kx
  kernel_rfl
theorem ok_impl_facesOf (k : Nat) : FnOK Tryz.prog 77 (fe_impl_facesOf k) := by
  refine closed_ok (tab := [(104, fe_slices_Concat_int64 k)]) (l := []) ti_ok ti_ht mix (List.forall_mem_cons.2 ⟨ok_slices_Concat_int64 k, (List.forall_mem_nil _)⟩) (List.forall_mem_nil _) ⟨⟨Tryz.f77, (codeOf Tryz.f77), [.tmp 2], (impl_facesOf_O k), by kernel_rfl, by kernel_rfl, by kernel_rfl, by kernel_rfl, rfl, by decide, ⟨by kernel_rfl, ?_, ?_⟩, ?_⟩⟩
  · refine loops_of (n := 1) (by kernel_rfl) fun i hi => ?_
    match i, hi with
    | 0, _ => exact loop_of (by kernel_rfl) (impl_facesOf_l0_ok k)
    | n + 1, hi => omega
  · exact no_cuts (by kernel_rfl)
  · rintro s0
    kernel_rfl
/- 105 slices.BinarySearchFunc[[][]int64,[]int64,[]int64] -/
def slices_BinarySearchFunc_int64__impl_compareSimplices_l0 (k : Nat) : Nat → (List (List Int)) → (List Int) → Unit → Int → Int → Int → ((List (List Int)) → (List Int) → Unit → Int → Int → Option (Int × Bool)) → Option (Int × Bool)
  | 0, _, _, _, _, _, _, _ => none
  | n + 1, x0, target1, cmp2, n8, i9, j10, e_0 => (if (decide (i9 < j10)) = true then (if 0 ≤ (w_i64 ((Int.fdiv (w_u64 ((w_i64 (i9 + j10)))) (2 ^ 1)))) then (x0[(w_i64 ((Int.fdiv (w_u64 ((w_i64 (i9 + j10)))) (2 ^ 1)))).toNat]?).bind fun y_1 => (impl_compareSimplices k y_1 target1).bind fun r_2 => (if (decide (r_2 < 0)) = true then slices_BinarySearchFunc_int64__impl_compareSimplices_l0 k n x0 target1 cmp2 n8 (w_i64 ((w_i64 ((Int.fdiv (w_u64 ((w_i64 (i9 + j10)))) (2 ^ 1)))) + 1)) j10 e_0 else slices_BinarySearchFunc_int64__impl_compareSimplices_l0 k n x0 target1 cmp2 n8 i9 (w_i64 ((Int.fdiv (w_u64 ((w_i64 (i9 + j10)))) (2 ^ 1)))) e_0) else none) else e_0 x0 target1 cmp2 n8 i9)
def slices_BinarySearchFunc_int64__impl_compareSimplices (k : Nat) (x0 : List (List Int)) (target1 : List Int) (cmp2 : Unit) : Option (Int × Bool) := slices_BinarySearchFunc_int64__impl_compareSimplices_l0 k k x0 target1 cmp2 (List.length x0 : Int) 0 (List.length x0 : Int) (fun x_3 target_4 cmp_5 n_6 i_7 => (if (decide (i_7 < n_6)) = true then (if 0 ≤ i_7 then (x_3[i_7.toNat]?).bind fun y_8 => (impl_compareSimplices k y_8 target_4).bind fun r_9 => some (i_7, (decide (r_9 = 0))) else none) else some (i_7, false)))
def slices_BinarySearchFunc_int64__impl_compareSimplices_l0_h : Head := ⟨[(0, (.val (.sl 25 (.sl 2 (.int .i64))))), (1, (.val (.sl 2 (.int .i64)))), (2, (.val (.fn 75 .un))), (8, (.val (.int .i64))), (9, (.val (.int .i64))), (10, (.val (.int .i64)))], [], []⟩
def slices_BinarySearchFunc_int64__impl_compareSimplices_l0_x0 : Head := ⟨[(0, (.val (.sl 25 (.sl 2 (.int .i64))))), (1, (.val (.sl 2 (.int .i64)))), (2, (.val (.fn 75 .un))), (8, (.val (.int .i64))), (9, (.val (.int .i64)))], [], []⟩
def slices_BinarySearchFunc_int64__impl_compareSimplices_l0_F (k n : Nat) (x : slices_BinarySearchFunc_int64__impl_compareSimplices_l0_h.T) (kx : Nat → St → Option (Int × Bool)) : Option (Int × Bool) := slices_BinarySearchFunc_int64__impl_compareSimplices_l0 k n x.1.1 x.1.2.1 x.1.2.2.1 x.1.2.2.2.1 x.1.2.2.2.2.1 x.1.2.2.2.2.2.1 (fun (x0 : List (List Int)) (target1 : List Int) (cmp2 : Unit) (n8 : Int) (i9 : Int) => kx 0 (slices_BinarySearchFunc_int64__impl_compareSimplices_l0_x0.fill ((x0, target1, cmp2, n8, i9, ()), (), ())))
def slices_BinarySearchFunc_int64__impl_compareSimplices_O (k : Nat) : Oracles (Int × Bool) := ⟨fun n => bif Nat.beq n 3 then some (fun σ kx => slices_BinarySearchFunc_int64__impl_compareSimplices_l0_h.get σ fun x => slices_BinarySearchFunc_int64__impl_compareSimplices_l0_F k k x kx) else none, fun _ => none⟩
def fe_slices_BinarySearchFunc_int64__impl_compareSimplices (k : Nat) : FE := ⟨(.pr (.sl 25 (.sl 2 (.int .i64))) (.pr (.sl 2 (.int .i64)) (.fn 75 .un))), 2, (.pr (.int .i64) .bool), fun x => slices_BinarySearchFunc_int64__impl_compareSimplices k x.1 x.2.1 x.2.2⟩
theorem slices_BinarySearchFunc_int64__impl_compareSimplices_l0_ok (k : Nat) : LoopOK (mkEnv ti [(75, fe_impl_compareSimplices k)] (lk []) pins0 pinB0) (slices_BinarySearchFunc_int64__impl_compareSimplices_O k) (rdC (mkEnv ti [(75, fe_impl_compareSimplices k)] (lk []) pins0 pinB0) [.tmp 6, .tmp 7] (.pr (.int .i64) .bool)) ((loopsOf (codeOf Tryz.f105)).getD 0 .skip) (fun σ kx => slices_BinarySearchFunc_int64__impl_compareSimplices_l0_h.get σ fun x => slices_BinarySearchFunc_int64__impl_compareSimplices_l0_F k k x kx) := by
  refine ⟨slices_BinarySearchFunc_int64__impl_compareSimplices_l0_h, [(0, slices_BinarySearchFunc_int64__impl_compareSimplices_l0_x0)], fun n x kx => slices_BinarySearchFunc_int64__impl_compareSimplices_l0_F k n x kx, k, by kernel_rfl, by kernel_rfl, fun x kx => by kernel_rfl, ?_, fun σ kx => rfl⟩
  rintro n ⟨⟨x0, target1, cmp2, n8, i9, j10, ⟨⟩⟩, ⟨⟩, ⟨⟩⟩ kx
  kernel_rfl
theorem ok_slices_BinarySearchFunc_int64__impl_compareSimplices (k : Nat) : FnOK Tryz.prog 105 (fe_slices_BinarySearchFunc_int64__impl_compareSimplices k) := by
  refine closed_ok (tab := [(75, fe_impl_compareSimplices k)]) (l := []) ti_ok ti_ht mix (List.forall_mem_cons.2 ⟨ok_impl_compareSimplices k, (List.forall_mem_nil _)⟩) (List.forall_mem_nil _) ⟨⟨Tryz.f105, (codeOf Tryz.f105), [.tmp 6, .tmp 7], (slices_BinarySearchFunc_int64__impl_compareSimplices_O k), by kernel_rfl, by kernel_rfl, by kernel_rfl, by kernel_rfl, rfl, by decide, ⟨by kernel_rfl, ?_, ?_⟩, ?_⟩⟩
  · refine loops_of (n := 1) (by kernel_rfl) fun i hi => ?_
    match i, hi with
    | 0, _ => exact loop_of (by kernel_rfl) (slices_BinarySearchFunc_int64__impl_compareSimplices_l0_ok k)
    | n + 1, hi => omega
  · exact no_cuts (by kernel_rfl)
  · rintro ⟨x0, target1, cmp2⟩
    kernel_rfl
/- 79 loop.example/g01005/impl.indexOf -/
def impl_indexOf (k : Nat) (c0 : List (List Int)) (s1 : List Int) : Option Int := (slices_BinarySearchFunc_int64__impl_compareSimplices k c0 s1 ()).bind fun r_1 => (if (!r_1.2) = true then some (-1) else some r_1.1)
def fe_impl_indexOf (k : Nat) : FE := ⟨(.pr (.st (.sl 25 (.sl 2 (.int .i64)))) (.sl 2 (.int .i64))), 1, (.int .i64), fun x => impl_indexOf k x.1 x.2⟩
theorem ok_impl_indexOf (k : Nat) : FnOK Tryz.prog 79 (fe_impl_indexOf k) := by
  refine closed_ok (tab := [(105, fe_slices_BinarySearchFunc_int64__impl_compareSimplices k)]) (l := []) ti_ok ti_ht mix (List.forall_mem_cons.2 ⟨ok_slices_BinarySearchFunc_int64__impl_compareSimplices k, (List.forall_mem_nil _)⟩) (List.forall_mem_nil _) ⟨⟨Tryz.f79, (codeOf Tryz.f79), [.tmp 4], (LOn Int), by kernel_rfl, by kernel_rfl, by kernel_rfl, by kernel_rfl, rfl, by decide, ⟨by kernel_rfl, ?_, ?_⟩, ?_⟩⟩
  · exact no_loops (by kernel_rfl)
  · exact no_cuts (by kernel_rfl)
  · rintro ⟨c0, s1⟩
    kernel_rfl
/- 78 loop.example/g01005/impl.ValidComplex$1 -/
def impl_ValidComplex_1 (k : Nat) (f0 : List Int) (x1 : List (List Int)) (x2 : Int) : Option Bool := (if 0 ≤ (0 : Int) ∧ (0 : Int) ≤ x2 ∧ x2 ≤ x1.length then (impl_indexOf k (x1.take x2.toNat) f0).bind fun r_1 => some (decide (r_1 < 0)) else none)
def fe_impl_ValidComplex_1 (k : Nat) : FE := ⟨(.pr (.sl 2 (.int .i64)) (.pr (.ptr (.st (.sl 25 (.sl 2 (.int .i64))))) (.ptr (.int .i64)))), 1, .bool, fun x => impl_ValidComplex_1 k x.1 x.2.1 x.2.2⟩
theorem ok_impl_ValidComplex_1 (k : Nat) : FnOK Tryz.prog 78 (fe_impl_ValidComplex_1 k) := by
  refine closed_ok (tab := [(79, fe_impl_indexOf k)]) (l := []) ti_ok ti_ht mix (List.forall_mem_cons.2 ⟨ok_impl_indexOf k, (List.forall_mem_nil _)⟩) (List.forall_mem_nil _) ⟨⟨Tryz.f78, (codeOf Tryz.f78), [.tmp 4], (LOn Bool), by kernel_rfl, by kernel_rfl, by kernel_rfl, by kernel_rfl, rfl, by decide, ⟨by kernel_rfl, ?_, ?_⟩, ?_⟩⟩
  · exact no_loops (by kernel_rfl)
  · exact no_cuts (by kernel_rfl)
  · rintro ⟨f0, x1, x2⟩
    kernel_rfl
/- 103 slices.IndexFunc[[][]int64,[]int64] -/
def slices_IndexFunc_int64__impl_ValidComplex_1_l0 (k : Nat) : Nat → (List (List Int)) → (List (List Int) × Int) → Int → Int → (Option Int) → Option Int
  | 0, _, _, _, _, _ => none
  | n + 1, s0, f1, x7, x8, e_0 => (if (decide (x8 < x7)) = true then (if 0 ≤ x8 then (s0[x8.toNat]?).bind fun y_1 => (impl_ValidComplex_1 k y_1 f1.1 f1.2).bind fun r_2 => (if r_2 = true then some x8 else slices_IndexFunc_int64__impl_ValidComplex_1_l0 k n s0 f1 x7 (w_i64 (x8 + 1)) e_0) else none) else e_0)
def slices_IndexFunc_int64__impl_ValidComplex_1 (k : Nat) (s0 : List (List Int)) (f1 : List (List Int) × Int) : Option Int := slices_IndexFunc_int64__impl_ValidComplex_1_l0 k k s0 f1 (List.length s0 : Int) 0 (some (-1))
def slices_IndexFunc_int64__impl_ValidComplex_1_l0_h : Head := ⟨[(0, (.val (.sl 25 (.sl 2 (.int .i64))))), (1, (.val (.fn 78 (.pr (.ptr (.st (.sl 25 (.sl 2 (.int .i64))))) (.ptr (.int .i64)))))), (7, (.val (.int .i64))), (8, (.val (.int .i64)))], [], []⟩
def slices_IndexFunc_int64__impl_ValidComplex_1_l0_x0 : Head := ⟨[], [], []⟩
def slices_IndexFunc_int64__impl_ValidComplex_1_l0_F (k n : Nat) (x : slices_IndexFunc_int64__impl_ValidComplex_1_l0_h.T) (kx : Nat → St → Option Int) : Option Int := slices_IndexFunc_int64__impl_ValidComplex_1_l0 k n x.1.1 x.1.2.1 x.1.2.2.1 x.1.2.2.2.1 (kx 0 (slices_IndexFunc_int64__impl_ValidComplex_1_l0_x0.fill ((), (), ())))
def slices_IndexFunc_int64__impl_ValidComplex_1_O (k : Nat) : Oracles Int := ⟨fun n => bif Nat.beq n 2 then some (fun σ kx => slices_IndexFunc_int64__impl_ValidComplex_1_l0_h.get σ fun x => slices_IndexFunc_int64__impl_ValidComplex_1_l0_F k k x kx) else none, fun _ => none⟩
def fe_slices_IndexFunc_int64__impl_ValidComplex_1 (k : Nat) : FE := ⟨(.pr (.sl 25 (.sl 2 (.int .i64))) (.fn 78 (.pr (.ptr (.st (.sl 25 (.sl 2 (.int .i64))))) (.ptr (.int .i64))))), 1, (.int .i64), fun x => slices_IndexFunc_int64__impl_ValidComplex_1 k x.1 x.2⟩
theorem slices_IndexFunc_int64__impl_ValidComplex_1_l0_ok (k : Nat) : LoopOK (mkEnv ti [(78, fe_impl_ValidComplex_1 k)] (lk []) pins0 pinB0) (slices_IndexFunc_int64__impl_ValidComplex_1_O k) (rdC (mkEnv ti [(78, fe_impl_ValidComplex_1 k)] (lk []) pins0 pinB0) [.tmp 4] (.int .i64)) ((loopsOf (codeOf Tryz.f103)).getD 0 .skip) (fun σ kx => slices_IndexFunc_int64__impl_ValidComplex_1_l0_h.get σ fun x => slices_IndexFunc_int64__impl_ValidComplex_1_l0_F k k x kx) := by
  refine ⟨slices_IndexFunc_int64__impl_ValidComplex_1_l0_h, [(0, slices_IndexFunc_int64__impl_ValidComplex_1_l0_x0)], fun n x kx => slices_IndexFunc_int64__impl_ValidComplex_1_l0_F k n x kx, k, by kernel_rfl, by kernel_rfl, fun x kx => by kernel_rfl, ?_, fun σ kx => rfl⟩
  rintro n ⟨⟨s0, f1, x7, x8, ⟨⟩⟩, ⟨⟩, ⟨⟩⟩ kx
  kernel_rfl
theorem ok_slices_IndexFunc_int64__impl_ValidComplex_1 (k : Nat) : FnOK Tryz.prog 103 (fe_slices_IndexFunc_int64__impl_ValidComplex_1 k) := by
  refine closed_ok (tab := [(78, fe_impl_ValidComplex_1 k)]) (l := []) ti_ok ti_ht mix (List.forall_mem_cons.2 ⟨ok_impl_ValidComplex_1 k, (List.forall_mem_nil _)⟩) (List.forall_mem_nil _) ⟨⟨Tryz.f103, (codeOf Tryz.f103), [.tmp 4], (slices_IndexFunc_int64__impl_ValidComplex_1_O k), by kernel_rfl, by kernel_rfl, by kernel_rfl, by kernel_rfl, rfl, by decide, ⟨by kernel_rfl, ?_, ?_⟩, ?_⟩⟩
  · refine loops_of (n := 1) (by kernel_rfl) fun i hi => ?_
    match i, hi with
    | 0, _ => exact loop_of (by kernel_rfl) (slices_IndexFunc_int64__impl_ValidComplex_1_l0_ok k)
    | n + 1, hi => omega
  · exact no_cuts (by kernel_rfl)
  · rintro ⟨s0, f1⟩
    kernel_rfl
/- 76 slices.ContainsFunc[[][]int64,[]int64] -/
def slices_ContainsFunc_int64__impl_ValidComplex_1 (k : Nat) (s0 : List (List Int)) (f1 : List (List Int) × Int) : Option Bool := (slices_IndexFunc_int64__impl_ValidComplex_1 k s0 f1).bind fun r_1 => some (decide (0 ≤ r_1))
def fe_slices_ContainsFunc_int64__impl_ValidComplex_1 (k : Nat) : FE := ⟨(.pr (.sl 25 (.sl 2 (.int .i64))) (.fn 78 (.pr (.ptr (.st (.sl 25 (.sl 2 (.int .i64))))) (.ptr (.int .i64))))), 1, .bool, fun x => slices_ContainsFunc_int64__impl_ValidComplex_1 k x.1 x.2⟩
theorem ok_slices_ContainsFunc_int64__impl_ValidComplex_1 (k : Nat) : FnOK Tryz.prog 76 (fe_slices_ContainsFunc_int64__impl_ValidComplex_1 k) := by
  refine closed_ok (tab := [(103, fe_slices_IndexFunc_int64__impl_ValidComplex_1 k)]) (l := []) ti_ok ti_ht mix (List.forall_mem_cons.2 ⟨ok_slices_IndexFunc_int64__impl_ValidComplex_1 k, (List.forall_mem_nil _)⟩) (List.forall_mem_nil _) ⟨⟨Tryz.f76, (codeOf Tryz.f76), [.tmp 4], (LOn Bool), by kernel_rfl, by kernel_rfl, by kernel_rfl, by kernel_rfl, rfl, by decide, ⟨by kernel_rfl, ?_, ?_⟩, ?_⟩⟩
  · exact no_loops (by kernel_rfl)
  · exact no_cuts (by kernel_rfl)
  · rintro ⟨s0, f1⟩
    kernel_rfl
/- 44 loop.example/g01005/impl.ValidComplex -/
def impl_ValidComplex_l0 (k : Nat) : Nat → (List (List Int)) → Int → Int → (List (List Int)) → ((List (List Int)) → Option Bool) → Option Bool
  | 0, _, _, _, _, _ => none
  | n + 1, x6, x7, x8, v_1, e_0 => (if (decide (x8 < x7)) = true then (if 0 ≤ x8 then (x6[x8.toNat]?).bind fun y_1 => (impl_ValidSimplex k y_1).bind fun r_2 => (if (!r_2) = true then some false else (if (decide (0 < x8)) = true then (if 0 ≤ (w_i64 (x8 - 1)) then (v_1[(w_i64 (x8 - 1)).toNat]?).bind fun y_3 => (impl_compareSimplices k y_3 y_1).bind fun r_4 => (if (decide (0 ≤ r_4)) = true then some false else (impl_facesOf k y_1).bind fun r_5 => (slices_ContainsFunc_int64__impl_ValidComplex_1 k r_5 (v_1, x8)).bind fun r_6 => (if r_6 = true then some false else impl_ValidComplex_l0 k n x6 x7 (w_i64 (x8 + 1)) v_1 e_0)) else none) else (impl_facesOf k y_1).bind fun r_7 => (slices_ContainsFunc_int64__impl_ValidComplex_1 k r_7 (v_1, x8)).bind fun r_8 => (if r_8 = true then some false else impl_ValidComplex_l0 k n x6 x7 (w_i64 (x8 + 1)) v_1 e_0))) else none) else e_0 v_1)
def impl_ValidComplex (k : Nat) (c0 : List (List Int)) : Option Bool := impl_ValidComplex_l0 k k c0 (List.length c0 : Int) 0 c0 (fun v_9 => some (decide ((List.length v_9 : Int) ≤ 48)))
def impl_ValidComplex_l0_h : Head := ⟨[(1, (.bp 1 [] 0)), (6, (.val (.sl 25 (.sl 2 (.int .i64))))), (7, (.val (.int .i64))), (8, (.val (.int .i64)))], [], [(1, 39, (.val (.st (.sl 25 (.sl 2 (.int .i64))))))]⟩
def impl_ValidComplex_l0_x0 : Head := ⟨[(1, (.bp 1 [] 0))], [], [(1, 39, (.val (.st (.sl 25 (.sl 2 (.int .i64))))))]⟩
def impl_ValidComplex_l0_F (k n : Nat) (x : impl_ValidComplex_l0_h.T) (kx : Nat → St → Option Bool) : Option Bool := impl_ValidComplex_l0 k n x.1.2.1 x.1.2.2.1 x.1.2.2.2.1 x.2.2.1 (fun (v_1 : List (List Int)) => kx 0 (impl_ValidComplex_l0_x0.fill (((), ()), (), (v_1, ()))))
def impl_ValidComplex_O (k : Nat) : Oracles Bool := ⟨fun n => bif Nat.beq n 2 then some (fun σ kx => impl_ValidComplex_l0_h.get σ fun x => impl_ValidComplex_l0_F k k x kx) else none, fun _ => none⟩
def fe_impl_ValidComplex (k : Nat) : FE := ⟨(.st (.sl 25 (.sl 2 (.int .i64)))), 1, .bool, fun x => impl_ValidComplex k x⟩
theorem impl_ValidComplex_l0_ok (k : Nat) : LoopOK (mkEnv ti [(74, fe_impl_ValidSimplex k), (75, fe_impl_compareSimplices k), (77, fe_impl_facesOf k), (76, fe_slices_ContainsFunc_int64__impl_ValidComplex_1 k)] (lk []) pins0 pinB0) (impl_ValidComplex_O k) (rdC (mkEnv ti [(74, fe_impl_ValidSimplex k), (75, fe_impl_compareSimplices k), (77, fe_impl_facesOf k), (76, fe_slices_ContainsFunc_int64__impl_ValidComplex_1 k)] (lk []) pins0 pinB0) [.tmp 2] .bool) ((loopsOf (codeOf Tryz.f44)).getD 0 .skip) (fun σ kx => impl_ValidComplex_l0_h.get σ fun x => impl_ValidComplex_l0_F k k x kx) := by
  refine ⟨impl_ValidComplex_l0_h, [(0, impl_ValidComplex_l0_x0)], fun n x kx => impl_ValidComplex_l0_F k n x kx, k, by kernel_rfl, by kernel_rfl, fun x kx => by kernel_rfl, ?_, fun σ kx => rfl⟩
  rintro n ⟨⟨⟨⟩, x6, x7, x8, ⟨⟩⟩, ⟨⟩, ⟨v_1, ⟨⟩⟩⟩ kx
  kernel_rfl
theorem ok_impl_ValidComplex (k : Nat) : FnOK Tryz.prog 44 (fe_impl_ValidComplex k) := by
  refine closed_ok (tab := [(74, fe_impl_ValidSimplex k), (75, fe_impl_compareSimplices k), (77, fe_impl_facesOf k), (76, fe_slices_ContainsFunc_int64__impl_ValidComplex_1 k)]) (l := []) ti_ok ti_ht mix (List.forall_mem_cons.2 ⟨ok_impl_ValidSimplex k, (List.forall_mem_cons.2 ⟨ok_impl_compareSimplices k, (List.forall_mem_cons.2 ⟨ok_impl_facesOf k, (List.forall_mem_cons.2 ⟨ok_slices_ContainsFunc_int64__impl_ValidComplex_1 k, (List.forall_mem_nil _)⟩)⟩)⟩)⟩) (List.forall_mem_nil _) ⟨⟨Tryz.f44, (codeOf Tryz.f44), [.tmp 2], (impl_ValidComplex_O k), by kernel_rfl, by kernel_rfl, by kernel_rfl, by kernel_rfl, rfl, by decide, ⟨by kernel_rfl, ?_, ?_⟩, ?_⟩⟩
  · refine loops_of (n := 1) (by kernel_rfl) fun i hi => ?_
    match i, hi with
    | 0, _ => exact loop_of (by kernel_rfl) (impl_ValidComplex_l0_ok k)
    | n + 1, hi => omega
  · exact no_cuts (by kernel_rfl)
  · rintro c0
    kernel_rfl
/- 45 loop.example/g01005/impl.ValidPrime -/
def impl_ValidPrime_l0 (k : Nat) : Nat → Int → Int → (Option Bool) → Option Bool
  | 0, _, _, _ => none
  | n + 1, p0, d3, e_0 => (if (decide ((w_i64 (d3 * d3)) ≤ p0)) = true then (if d3 = 0 then none else (if (decide ((Int.tmod p0 d3) = 0)) = true then some false else impl_ValidPrime_l0 k n p0 (w_i64 (d3 + 1)) e_0)) else e_0)
def impl_ValidPrime (k : Nat) (p0 : Int) : Option Bool := (impl_within p0 2 251).bind fun r_1 => (if (!r_1) = true then some false else impl_ValidPrime_l0 k k p0 2 (some true))
def impl_ValidPrime_l0_h : Head := ⟨[(0, (.val (.int .i64))), (3, (.val (.int .i64)))], [], []⟩
def impl_ValidPrime_l0_x0 : Head := ⟨[], [], []⟩
def impl_ValidPrime_l0_F (k n : Nat) (x : impl_ValidPrime_l0_h.T) (kx : Nat → St → Option Bool) : Option Bool := impl_ValidPrime_l0 k n x.1.1 x.1.2.1 (kx 0 (impl_ValidPrime_l0_x0.fill ((), (), ())))
def impl_ValidPrime_O (k : Nat) : Oracles Bool := ⟨fun n => bif Nat.beq n 4 then some (fun σ kx => impl_ValidPrime_l0_h.get σ fun x => impl_ValidPrime_l0_F k k x kx) else none, fun _ => none⟩
def fe_impl_ValidPrime (k : Nat) : FE := ⟨(.int .i64), 1, .bool, fun x => impl_ValidPrime k x⟩
theorem impl_ValidPrime_l0_ok (k : Nat) : LoopOK (mkEnv ti [(49, fe_impl_within)] (lk []) pins0 pinB0) (impl_ValidPrime_O k) (rdC (mkEnv ti [(49, fe_impl_within)] (lk []) pins0 pinB0) [.tmp 2] .bool) ((loopsOf (codeOf Tryz.f45)).getD 0 .skip) (fun σ kx => impl_ValidPrime_l0_h.get σ fun x => impl_ValidPrime_l0_F k k x kx) := by
  refine ⟨impl_ValidPrime_l0_h, [(0, impl_ValidPrime_l0_x0)], fun n x kx => impl_ValidPrime_l0_F k n x kx, k, by kernel_rfl, by kernel_rfl, fun x kx => by kernel_rfl, ?_, fun σ kx => rfl⟩
  rintro n ⟨⟨p0, d3, ⟨⟩⟩, ⟨⟩, ⟨⟩⟩ kx
  kernel_rfl
theorem ok_impl_ValidPrime (k : Nat) : FnOK Tryz.prog 45 (fe_impl_ValidPrime k) := by
  refine closed_ok (tab := [(49, fe_impl_within)]) (l := []) ti_ok ti_ht mix (List.forall_mem_cons.2 ⟨ok_impl_within, (List.forall_mem_nil _)⟩) (List.forall_mem_nil _) ⟨⟨Tryz.f45, (codeOf Tryz.f45), [.tmp 2], (impl_ValidPrime_O k), by kernel_rfl, by kernel_rfl, by kernel_rfl, by kernel_rfl, rfl, by decide, ⟨by kernel_rfl, ?_, ?_⟩, ?_⟩⟩
  · refine loops_of (n := 1) (by kernel_rfl) fun i hi => ?_
    match i, hi with
    | 0, _ => exact loop_of (by kernel_rfl) (impl_ValidPrime_l0_ok k)
    | n + 1, hi => omega
  · exact no_cuts (by kernel_rfl)
  · rintro p0
    kernel_rfl
/- 81 loop.example/g01005/impl.areStalks$1 -/
def impl_areStalks_1 (n0 : Int) : Option Bool := (impl_within n0 0 3).bind fun r_1 => some (!r_1)
def fe_impl_areStalks_1 : FE := ⟨(.int .i64), 1, .bool, fun x => impl_areStalks_1 x⟩
theorem ok_impl_areStalks_1 : FnOK Tryz.prog 81 (fe_impl_areStalks_1) := by
  refine closed_ok (tab := [(49, fe_impl_within)]) (l := []) ti_ok ti_ht mix (List.forall_mem_cons.2 ⟨ok_impl_within, (List.forall_mem_nil _)⟩) (List.forall_mem_nil _) ⟨⟨Tryz.f81, (codeOf Tryz.f81), [.tmp 2], (LOn Bool), by kernel_rfl, by kernel_rfl, by kernel_rfl, by kernel_rfl, rfl, by decide, ⟨by kernel_rfl, ?_, ?_⟩, ?_⟩⟩
  · exact no_loops (by kernel_rfl)
  · exact no_cuts (by kernel_rfl)
  · rintro n0
    kernel_rfl
/- 106 slices.IndexFunc[[]int64,int64] -/
def slices_IndexFunc_int64__impl_areStalks_1_l0 (k : Nat) : Nat → (List Int) → Unit → Int → Int → (Option Int) → Option Int
  | 0, _, _, _, _, _ => none
  | n + 1, s0, f1, x7, x8, e_0 => (if (decide (x8 < x7)) = true then (if 0 ≤ x8 then (s0[x8.toNat]?).bind fun y_1 => (impl_areStalks_1 y_1).bind fun r_2 => (if r_2 = true then some x8 else slices_IndexFunc_int64__impl_areStalks_1_l0 k n s0 f1 x7 (w_i64 (x8 + 1)) e_0) else none) else e_0)
def slices_IndexFunc_int64__impl_areStalks_1 (k : Nat) (s0 : List Int) (f1 : Unit) : Option Int := slices_IndexFunc_int64__impl_areStalks_1_l0 k k s0 f1 (List.length s0 : Int) 0 (some (-1))
def slices_IndexFunc_int64__impl_areStalks_1_l0_h : Head := ⟨[(0, (.val (.sl 2 (.int .i64)))), (1, (.val (.fn 81 .un))), (7, (.val (.int .i64))), (8, (.val (.int .i64)))], [], []⟩
def slices_IndexFunc_int64__impl_areStalks_1_l0_x0 : Head := ⟨[], [], []⟩
def slices_IndexFunc_int64__impl_areStalks_1_l0_F (k n : Nat) (x : slices_IndexFunc_int64__impl_areStalks_1_l0_h.T) (kx : Nat → St → Option Int) : Option Int := slices_IndexFunc_int64__impl_areStalks_1_l0 k n x.1.1 x.1.2.1 x.1.2.2.1 x.1.2.2.2.1 (kx 0 (slices_IndexFunc_int64__impl_areStalks_1_l0_x0.fill ((), (), ())))
def slices_IndexFunc_int64__impl_areStalks_1_O (k : Nat) : Oracles Int := ⟨fun n => bif Nat.beq n 2 then some (fun σ kx => slices_IndexFunc_int64__impl_areStalks_1_l0_h.get σ fun x => slices_IndexFunc_int64__impl_areStalks_1_l0_F k k x kx) else none, fun _ => none⟩
def fe_slices_IndexFunc_int64__impl_areStalks_1 (k : Nat) : FE := ⟨(.pr (.sl 2 (.int .i64)) (.fn 81 .un)), 1, (.int .i64), fun x => slices_IndexFunc_int64__impl_areStalks_1 k x.1 x.2⟩
theorem slices_IndexFunc_int64__impl_areStalks_1_l0_ok (k : Nat) : LoopOK (mkEnv ti [(81, fe_impl_areStalks_1)] (lk []) pins0 pinB0) (slices_IndexFunc_int64__impl_areStalks_1_O k) (rdC (mkEnv ti [(81, fe_impl_areStalks_1)] (lk []) pins0 pinB0) [.tmp 4] (.int .i64)) ((loopsOf (codeOf Tryz.f106)).getD 0 .skip) (fun σ kx => slices_IndexFunc_int64__impl_areStalks_1_l0_h.get σ fun x => slices_IndexFunc_int64__impl_areStalks_1_l0_F k k x kx) := by
  refine ⟨slices_IndexFunc_int64__impl_areStalks_1_l0_h, [(0, slices_IndexFunc_int64__impl_areStalks_1_l0_x0)], fun n x kx => slices_IndexFunc_int64__impl_areStalks_1_l0_F k n x kx, k, by kernel_rfl, by kernel_rfl, fun x kx => by kernel_rfl, ?_, fun σ kx => rfl⟩
  rintro n ⟨⟨s0, f1, x7, x8, ⟨⟩⟩, ⟨⟩, ⟨⟩⟩ kx
  kernel_rfl
theorem ok_slices_IndexFunc_int64__impl_areStalks_1 (k : Nat) : FnOK Tryz.prog 106 (fe_slices_IndexFunc_int64__impl_areStalks_1 k) := by
  refine closed_ok (tab := [(81, fe_impl_areStalks_1)]) (l := []) ti_ok ti_ht mix (List.forall_mem_cons.2 ⟨ok_impl_areStalks_1, (List.forall_mem_nil _)⟩) (List.forall_mem_nil _) ⟨⟨Tryz.f106, (codeOf Tryz.f106), [.tmp 4], (slices_IndexFunc_int64__impl_areStalks_1_O k), by kernel_rfl, by kernel_rfl, by kernel_rfl, by kernel_rfl, rfl, by decide, ⟨by kernel_rfl, ?_, ?_⟩, ?_⟩⟩
  · refine loops_of (n := 1) (by kernel_rfl) fun i hi => ?_
    match i, hi with
    | 0, _ => exact loop_of (by kernel_rfl) (slices_IndexFunc_int64__impl_areStalks_1_l0_ok k)
    | n + 1, hi => omega
  · exact no_cuts (by kernel_rfl)
  · rintro ⟨s0, f1⟩
    kernel_rfl
end
end Go.Proofs.YtankbidchgcapaaGreat.Ev
