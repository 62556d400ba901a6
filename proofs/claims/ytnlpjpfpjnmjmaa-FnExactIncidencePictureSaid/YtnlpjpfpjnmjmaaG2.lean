/- Functions of the program, as plain ones. No conditions. -/
import Derived.Test.YtnlpjpfpjnmjmaaG1
import Derived.KernelRfl
set_option linter.unusedVariables false
set_option maxRecDepth 100000
namespace Go.Proofs.Ytnlpjpfpjnmjmaa.Ev
open Go.RowKit
noncomputable section
/- 31 loop.example/g01005/spec.l05Facets -/
def spec_l05Facets_l0 (k : Nat) : Nat → (List (List Int)) → Int → (List Int) → ((List Int) → Option (List Int)) → Option (List Int)
  | 0, _, _, _, _ => none
  | n + 1, c0, i4, q_1, e_0 => (if (decide (i4 < (List.length c0 : Int))) = true then (if 0 ≤ i4 then (c0[i4.toNat]?).bind fun y_2 => (spec_l05Star k c0 y_2).bind fun r_3 => (if (decide ((List.length r_3 : Int) = 1)) = true then (if (q_1.length + [i4].length) * 8 ≤ LIM then spec_l05Facets_l0 k n c0 (w_i64 (i4 + 1)) (q_1 ++ [i4]) e_0 else none) else spec_l05Facets_l0 k n c0 (w_i64 (i4 + 1)) q_1 e_0) else none) else e_0 q_1)
def spec_l05Facets (k : Nat) (c0 : List (List Int)) : Option (List Int) := spec_l05Facets_l0 k k c0 0 [] (fun q_4 => some q_4)
def spec_l05Facets_l0_h : Head := ⟨[(0, (.val (.ptr (.st (.sl 43 (.sl 2 (.int .i64))))))), (3, (.ref 64000000 [])), (4, (.val (.int .i64)))], [(64000000, 2, (.int .i64), false)], []⟩
def spec_l05Facets_l0_x0 : Head := ⟨[(3, (.ref 64000000 []))], [(64000000, 2, (.int .i64), false)], []⟩
def spec_l05Facets_l0_F (k n : Nat) (x : spec_l05Facets_l0_h.T) (kx : Nat → St → Option (List Int)) : Option (List Int) := spec_l05Facets_l0 k n x.1.1 x.1.2.2.1 x.2.1.1 (fun (q_4 : List Int) => kx 0 (spec_l05Facets_l0_x0.fill (((), ()), (q_4, ()), ())))
def spec_l05Facets_O (k : Nat) : Oracles (List Int) := ⟨fun n => bif Nat.beq n 3 then some (fun σ kx => spec_l05Facets_l0_h.get σ fun x => spec_l05Facets_l0_F k k x kx) else none, fun _ => none⟩
def fe_spec_l05Facets (k : Nat) : FE := ⟨(.ptr (.st (.sl 43 (.sl 2 (.int .i64))))), 1, (.sl 2 (.int .i64)), fun x => spec_l05Facets k x⟩
theorem spec_l05Facets_l0_ok (k : Nat) : LoopOK (mkEnv ti [(54, fe_spec_l05Star k)] (lk []) pins0 pinB0) (spec_l05Facets_O k) (rdC (mkEnv ti [(54, fe_spec_l05Star k)] (lk []) pins0 pinB0) [.tmp 2] (.sl 2 (.int .i64))) ((loopsOf (codeOf Try.f31)).getD 0 .skip) (fun σ kx => spec_l05Facets_l0_h.get σ fun x => spec_l05Facets_l0_F k k x kx) := by
  refine ⟨spec_l05Facets_l0_h, [(0, spec_l05Facets_l0_x0)], fun n x kx => spec_l05Facets_l0_F k n x kx, k, by kernel_rfl, by kernel_rfl, fun x kx => by kernel_rfl, ?_, fun σ kx => rfl⟩
  rintro n ⟨⟨c0, ⟨⟩, i4, ⟨⟩⟩, ⟨q_1, ⟨⟩⟩, ⟨⟩⟩ kx
  kernel_rfl
theorem ok_spec_l05Facets (k : Nat) : FnOK Try.prog 31 (fe_spec_l05Facets k) := by
  refine closed_ok (tab := [(54, fe_spec_l05Star k)]) (l := []) ti_ok ti_ht mix (List.forall_mem_cons.2 ⟨ok_spec_l05Star k, (List.forall_mem_nil _)⟩) (List.forall_mem_nil _) ⟨⟨Try.f31, (codeOf Try.f31), [.tmp 2], (spec_l05Facets_O k), by kernel_rfl, by kernel_rfl, by kernel_rfl, by kernel_rfl, rfl, by decide, ⟨by kernel_rfl, ?_, ?_⟩, ?_⟩⟩
  · refine loops_of (n := 1) (by kernel_rfl) fun i hi => ?_
    match i, hi with
    | 0, _ => exact loop_of (by kernel_rfl) (spec_l05Facets_l0_ok k)
    | n + 1, hi => omega
  · exact no_cuts (by kernel_rfl)
  · rintro c0
    kernel_rfl
/- 16 loop.example/g01005/spec.l30Incidence -/
def spec_l30Incidence_l1 (k : Nat) : Nat → (List (List Int)) → Int → (List UInt8) → Int → (List Int) → (List (List UInt8)) → ((List (List Int)) → Int → (List UInt8) → (List Int) → (List (List UInt8)) → Option (List (List UInt8))) → Option (List (List UInt8))
  | 0, _, _, _, _, _, _, _ => none
  | n + 1, c0, i5, line6, v7, q_4, q_5, e_2 => (if (decide (v7 < 10)) = true then (if 0 ≤ i5 ∧ i5.toNat < List.length q_4 then (q_4[i5.toNat]?).bind fun y_6 => (if 0 ≤ y_6 then (c0[y_6.toNat]?).bind fun y_7 => (spec_l00Has k y_7 v7).bind fun r_8 => (if r_8 = true then (if line6.length + [35].length ≤ 9223372036854775807 then spec_l30Incidence_l1 k n c0 i5 (line6 ++ [35]) (w_i64 (v7 + 1)) q_4 q_5 e_2 else none) else (if line6.length + [46].length ≤ 9223372036854775807 then spec_l30Incidence_l1 k n c0 i5 (line6 ++ [46]) (w_i64 (v7 + 1)) q_4 q_5 e_2 else none)) else none) else none) else e_2 c0 i5 line6 q_4 q_5)
def spec_l30Incidence_l0 (k : Nat) : Nat → (List (List Int)) → Int → (List Int) → (List (List UInt8)) → ((List (List UInt8)) → Option (List (List UInt8))) → Option (List (List UInt8))
  | 0, _, _, _, _, _ => none
  | n + 1, c0, i5, q_2, q_3, e_0 => (if (decide (i5 < (List.length q_2 : Int))) = true then spec_l30Incidence_l1 k k c0 i5 [] 0 q_2 q_3 (fun c_4 i_5 line_6 q_7 q_8 => (if (q_8.length + [line_6].length) * 16 ≤ LIM then spec_l30Incidence_l0 k n c_4 (w_i64 (i_5 + 1)) q_7 (q_8 ++ [line_6]) e_0 else none)) else e_0 q_3)
def spec_l30Incidence (k : Nat) (c0 : List (List Int)) : Option (List (List UInt8)) := (spec_l05Facets k c0).bind fun r_1 => spec_l30Incidence_l0 k k c0 0 r_1 [] (fun q_9 => some q_9)
def spec_l30Incidence_l1_h : Head := ⟨[(0, (.val (.ptr (.st (.sl 43 (.sl 2 (.int .i64))))))), (3, (.ref 64000000 [])), (4, (.ref 64000001 [])), (5, (.val (.int .i64))), (6, (.val .str)), (7, (.val (.int .i64)))], [(64000000, 2, (.int .i64), false), (64000001, 9, .str, false)], []⟩
def spec_l30Incidence_l1_x2 : Head := ⟨[(0, (.val (.ptr (.st (.sl 43 (.sl 2 (.int .i64))))))), (3, (.ref 64000000 [])), (4, (.ref 64000001 [])), (5, (.val (.int .i64))), (6, (.val .str))], [(64000000, 2, (.int .i64), false), (64000001, 9, .str, false)], []⟩
def spec_l30Incidence_l1_F (k n : Nat) (x : spec_l30Incidence_l1_h.T) (kx : Nat → St → Option (List (List UInt8))) : Option (List (List UInt8)) := spec_l30Incidence_l1 k n x.1.1 x.1.2.2.2.1 x.1.2.2.2.2.1 x.1.2.2.2.2.2.1 x.2.1.1 x.2.1.2.1 (fun (c0 : List (List Int)) (i5 : Int) (line6 : List UInt8) (q_9 : List Int) (q_10 : List (List UInt8)) => kx 2 (spec_l30Incidence_l1_x2.fill ((c0, (), (), i5, line6, ()), (q_9, q_10, ()), ())))
def spec_l30Incidence_l0_h : Head := ⟨[(0, (.val (.ptr (.st (.sl 43 (.sl 2 (.int .i64))))))), (3, (.ref 64000000 [])), (4, (.ref 64000001 [])), (5, (.val (.int .i64)))], [(64000000, 2, (.int .i64), false), (64000001, 9, .str, false)], []⟩
def spec_l30Incidence_l0_x0 : Head := ⟨[(4, (.ref 64000000 []))], [(64000000, 9, .str, false)], []⟩
def spec_l30Incidence_l0_F (k n : Nat) (x : spec_l30Incidence_l0_h.T) (kx : Nat → St → Option (List (List UInt8))) : Option (List (List UInt8)) := spec_l30Incidence_l0 k n x.1.1 x.1.2.2.2.1 x.2.1.1 x.2.1.2.1 (fun (q_14 : List (List UInt8)) => kx 0 (spec_l30Incidence_l0_x0.fill (((), ()), (q_14, ()), ())))
def spec_l30Incidence_O (k : Nat) : Oracles (List (List UInt8)) := ⟨fun n => bif Nat.beq n 8 then some (fun σ kx => spec_l30Incidence_l1_h.get σ fun x => spec_l30Incidence_l1_F k k x kx) else bif Nat.beq n 4 then some (fun σ kx => spec_l30Incidence_l0_h.get σ fun x => spec_l30Incidence_l0_F k k x kx) else none, fun _ => none⟩
def fe_spec_l30Incidence (k : Nat) : FE := ⟨(.ptr (.st (.sl 43 (.sl 2 (.int .i64))))), 1, (.sl 9 .str), fun x => spec_l30Incidence k x⟩
theorem spec_l30Incidence_l1_ok (k : Nat) : LoopOK (mkEnv ti [(31, fe_spec_l05Facets k), (32, fe_spec_l00Has k)] (lk []) pins0 pinB0) (spec_l30Incidence_O k) (rdC (mkEnv ti [(31, fe_spec_l05Facets k), (32, fe_spec_l00Has k)] (lk []) pins0 pinB0) [.tmp 2] (.sl 9 .str)) ((loopsOf (codeOf Try.f16)).getD 1 .skip) (fun σ kx => spec_l30Incidence_l1_h.get σ fun x => spec_l30Incidence_l1_F k k x kx) := by
  refine ⟨spec_l30Incidence_l1_h, [(2, spec_l30Incidence_l1_x2)], fun n x kx => spec_l30Incidence_l1_F k n x kx, k, by kernel_rfl, by kernel_rfl, fun x kx => by kernel_rfl, ?_, fun σ kx => rfl⟩
  rintro n ⟨⟨c0, ⟨⟩, ⟨⟩, i5, line6, v7, ⟨⟩⟩, ⟨q_4, q_5, ⟨⟩⟩, ⟨⟩⟩ kx
  kernel_rfl
theorem spec_l30Incidence_l0_ok (k : Nat) : LoopOK (mkEnv ti [(31, fe_spec_l05Facets k), (32, fe_spec_l00Has k)] (lk []) pins0 pinB0) (spec_l30Incidence_O k) (rdC (mkEnv ti [(31, fe_spec_l05Facets k), (32, fe_spec_l00Has k)] (lk []) pins0 pinB0) [.tmp 2] (.sl 9 .str)) ((loopsOf (codeOf Try.f16)).getD 0 .skip) (fun σ kx => spec_l30Incidence_l0_h.get σ fun x => spec_l30Incidence_l0_F k k x kx) := by
  refine ⟨spec_l30Incidence_l0_h, [(0, spec_l30Incidence_l0_x0)], fun n x kx => spec_l30Incidence_l0_F k n x kx, k, by kernel_rfl, by kernel_rfl, fun x kx => by kernel_rfl, ?_, fun σ kx => rfl⟩
  rintro n ⟨⟨c0, ⟨⟩, ⟨⟩, i5, ⟨⟩⟩, ⟨q_2, q_3, ⟨⟩⟩, ⟨⟩⟩ kx
  kernel_rfl
theorem ok_spec_l30Incidence (k : Nat) : FnOK Try.prog 16 (fe_spec_l30Incidence k) := by
  refine closed_ok (tab := [(31, fe_spec_l05Facets k), (32, fe_spec_l00Has k)]) (l := []) ti_ok ti_ht mix (List.forall_mem_cons.2 ⟨ok_spec_l05Facets k, (List.forall_mem_cons.2 ⟨ok_spec_l00Has k, (List.forall_mem_nil _)⟩)⟩) (List.forall_mem_nil _) ⟨⟨Try.f16, (codeOf Try.f16), [.tmp 2], (spec_l30Incidence_O k), by kernel_rfl, by kernel_rfl, by kernel_rfl, by kernel_rfl, rfl, by decide, ⟨by kernel_rfl, ?_, ?_⟩, ?_⟩⟩
  · refine loops_of (n := 2) (by kernel_rfl) fun i hi => ?_
    match i, hi with
    | 0, _ => exact loop_of (by kernel_rfl) (spec_l30Incidence_l0_ok k)
    | 1, _ => exact loop_of (by kernel_rfl) (spec_l30Incidence_l1_ok k)
    | n + 2, hi => omega
  · exact no_cuts (by kernel_rfl)
  · rintro c0
    kernel_rfl
/- 30 loop.example/g01005/spec.l30Ok -/
def spec_l30Ok_l1 (k : Nat) : Nat → (List (List UInt8)) → Int → Int → ((List (List UInt8)) → Int → Option Bool) → Option Bool
  | 0, _, _, _, _ => none
  | n + 1, lines0, i3, k4, e_2 => (if 0 ≤ i3 then (lines0[i3.toNat]?).bind fun y_4 => (if (decide (k4 < (List.length y_4 : Int))) = true then (if 0 ≤ i3 then (lines0[i3.toNat]?).bind fun y_5 => (if 0 ≤ k4 then (y_5[k4.toNat]?).bind fun b_6 => (if (decide ((z_u8 b_6) < 32)) = true then some false else (if 0 ≤ i3 then (lines0[i3.toNat]?).bind fun y_7 => (if 0 ≤ k4 then (y_7[k4.toNat]?).bind fun b_8 => (if (decide (126 < (z_u8 b_8))) = true then some false else spec_l30Ok_l1 k n lines0 i3 (w_i64 (k4 + 1)) e_2) else none) else none)) else none) else none) else e_2 lines0 i3) else none)
def spec_l30Ok_l0 (k : Nat) : Nat → (List (List UInt8)) → Int → ((List (List UInt8)) → Option Bool) → Option Bool
  | 0, _, _, _ => none
  | n + 1, lines0, i3, e_0 => (if (decide (i3 < (List.length lines0 : Int))) = true then (if 0 ≤ i3 then (lines0[i3.toNat]?).bind fun y_1 => (lines0[0]?).bind fun y_2 => (if (!(decide ((List.length y_1 : Int) = (List.length y_2 : Int)))) = true then some false else (if 0 ≤ i3 then (lines0[i3.toNat]?).bind fun y_3 => (if (decide (80 < (List.length y_3 : Int))) = true then some false else spec_l30Ok_l1 k k lines0 i3 0 (fun lines_4 i_5 => spec_l30Ok_l0 k n lines_4 (w_i64 (i_5 + 1)) e_0)) else none)) else none) else e_0 lines0)
def spec_l30Ok (k : Nat) (lines0 : List (List UInt8)) : Option Bool := spec_l30Ok_l0 k k lines0 0 (fun lines_6 => some (decide ((List.length lines_6 : Int) ≤ 60)))
def spec_l30Ok_l1_h : Head := ⟨[(0, (.val (.sl 9 .str))), (3, (.val (.int .i64))), (4, (.val (.int .i64)))], [], []⟩
def spec_l30Ok_l1_x2 : Head := ⟨[(0, (.val (.sl 9 .str))), (3, (.val (.int .i64)))], [], []⟩
def spec_l30Ok_l1_F (k n : Nat) (x : spec_l30Ok_l1_h.T) (kx : Nat → St → Option Bool) : Option Bool := spec_l30Ok_l1 k n x.1.1 x.1.2.1 x.1.2.2.1 (fun (lines0 : List (List UInt8)) (i3 : Int) => kx 2 (spec_l30Ok_l1_x2.fill ((lines0, i3, ()), (), ())))
def spec_l30Ok_l0_h : Head := ⟨[(0, (.val (.sl 9 .str))), (3, (.val (.int .i64)))], [], []⟩
def spec_l30Ok_l0_x0 : Head := ⟨[(0, (.val (.sl 9 .str)))], [], []⟩
def spec_l30Ok_l0_F (k n : Nat) (x : spec_l30Ok_l0_h.T) (kx : Nat → St → Option Bool) : Option Bool := spec_l30Ok_l0 k n x.1.1 x.1.2.1 (fun (lines0 : List (List UInt8)) => kx 0 (spec_l30Ok_l0_x0.fill ((lines0, ()), (), ())))
def spec_l30Ok_O (k : Nat) : Oracles Bool := ⟨fun n => bif Nat.beq n 7 then some (fun σ kx => spec_l30Ok_l1_h.get σ fun x => spec_l30Ok_l1_F k k x kx) else bif Nat.beq n 2 then some (fun σ kx => spec_l30Ok_l0_h.get σ fun x => spec_l30Ok_l0_F k k x kx) else none, fun _ => none⟩
def fe_spec_l30Ok (k : Nat) : FE := ⟨(.sl 9 .str), 1, .bool, fun x => spec_l30Ok k x⟩
theorem spec_l30Ok_l1_ok (k : Nat) : LoopOK (mkEnv ti [] (lk []) pins0 pinB0) (spec_l30Ok_O k) (rdC (mkEnv ti [] (lk []) pins0 pinB0) [.tmp 2] .bool) ((loopsOf (codeOf Try.f30)).getD 1 .skip) (fun σ kx => spec_l30Ok_l1_h.get σ fun x => spec_l30Ok_l1_F k k x kx) := by
  refine ⟨spec_l30Ok_l1_h, [(2, spec_l30Ok_l1_x2)], fun n x kx => spec_l30Ok_l1_F k n x kx, k, by kernel_rfl, by kernel_rfl, fun x kx => by kernel_rfl, ?_, fun σ kx => rfl⟩
  rintro n ⟨⟨lines0, i3, k4, ⟨⟩⟩, ⟨⟩, ⟨⟩⟩ kx
  kernel_rfl
theorem spec_l30Ok_l0_ok (k : Nat) : LoopOK (mkEnv ti [] (lk []) pins0 pinB0) (spec_l30Ok_O k) (rdC (mkEnv ti [] (lk []) pins0 pinB0) [.tmp 2] .bool) ((loopsOf (codeOf Try.f30)).getD 0 .skip) (fun σ kx => spec_l30Ok_l0_h.get σ fun x => spec_l30Ok_l0_F k k x kx) := by
  refine ⟨spec_l30Ok_l0_h, [(0, spec_l30Ok_l0_x0)], fun n x kx => spec_l30Ok_l0_F k n x kx, k, by kernel_rfl, by kernel_rfl, fun x kx => by kernel_rfl, ?_, fun σ kx => rfl⟩
  rintro n ⟨⟨lines0, i3, ⟨⟩⟩, ⟨⟩, ⟨⟩⟩ kx
  kernel_rfl
theorem ok_spec_l30Ok (k : Nat) : FnOK Try.prog 30 (fe_spec_l30Ok k) := by
  refine closed_ok (tab := []) (l := []) ti_ok ti_ht mix (List.forall_mem_nil _) (List.forall_mem_nil _) ⟨⟨Try.f30, (codeOf Try.f30), [.tmp 2], (spec_l30Ok_O k), by kernel_rfl, by kernel_rfl, by kernel_rfl, by kernel_rfl, rfl, by decide, ⟨by kernel_rfl, ?_, ?_⟩, ?_⟩⟩
  · refine loops_of (n := 2) (by kernel_rfl) fun i hi => ?_
    match i, hi with
    | 0, _ => exact loop_of (by kernel_rfl) (spec_l30Ok_l0_ok k)
    | 1, _ => exact loop_of (by kernel_rfl) (spec_l30Ok_l1_ok k)
    | n + 2, hi => omega
  · exact no_cuts (by kernel_rfl)
  · rintro lines0
    kernel_rfl
/- 15 loop.example/g01005/spec.l30Done (open) -/
def spec_l30Done_g (k : Nat) (q_1 : List (List UInt8)) : Option ((((Unit × (Int × Unit)) × Unit) × ((List (List UInt8)) × Unit) × Unit)) := (spec_l30Ok k q_1).bind fun r_2 => (if (!r_2) = true then some ((((), (5, ())), ()), ([], ()), ()) else some ((((), (0, ())), ()), (q_1, ()), ()))
def spec_l30Done_g_hi : Head := ⟨[(0, (.ref 1000000000 []))], [(1000000000, 9, .str, false)], []⟩
def spec_l30Done_g_ho : Head := ⟨[(0, (.tup (.cns (.ref 64000000 []) (.cns (.val (.int .i64)) .nl))))], [(64000000, 9, .str, false)], []⟩
def oc_spec_l30Done_g (k : Nat) : OC := ⟨spec_l30Done_g_hi, spec_l30Done_g_ho, fun x => spec_l30Done_g k x.2.1.1⟩
theorem ok_spec_l30Done_g (k : Nat) : OpenOK Try.prog ti 15 (oc_spec_l30Done_g k) := by
  refine give_ok (tab := [(30, fe_spec_l30Ok k)]) (l := []) (n := 2) (t := (.pr (.sl 9 .str) (.int .i64))) ti_ok ti_ht mix (List.forall_mem_cons.2 ⟨ok_spec_l30Ok k, (List.forall_mem_nil _)⟩) (List.forall_mem_nil _) ⟨by kernel_rfl, by kernel_rfl, by kernel_rfl, by kernel_rfl, Try.f15, (codeOf Try.f15), [.tmp 2, .tmp 3], (LOn ((((Unit × (Int × Unit)) × Unit) × ((List (List UInt8)) × Unit) × Unit))), by kernel_rfl, by kernel_rfl, by kernel_rfl, by kernel_rfl, by kernel_rfl, Nat.le_of_ble_eq_true (by kernel_rfl), fun pins pinB => ⟨⟨by kernel_rfl, ?_, ?_⟩, ?_⟩⟩
  · exact no_loops (by kernel_rfl)
  · exact no_cuts (by kernel_rfl)
  · rintro ⟨⟨⟨⟩, ⟨⟩⟩, ⟨q_1, ⟨⟩⟩, ⟨⟩⟩
    kernel_rfl
/- 5 loop.example/g01005/spec.IncidencePicture -/
def spec_IncidencePicture (k : Nat) (c0 : List (List Int)) : Option (List (List UInt8) × Int) := (spec_l05Ok k c0).bind fun r_1 => (if (!r_1) = true then some ([], 1) else (spec_l30Incidence k c0).bind fun r_2 => (spec_l30Done_g k r_2).bind fun y_3 => some (y_3.2.1.1, y_3.1.1.2.1))
def fe_spec_IncidencePicture (k : Nat) : FE := ⟨(.st (.sl 43 (.sl 2 (.int .i64)))), 2, (.pr (.sl 9 .str) (.int .i64)), fun x => spec_IncidencePicture k x⟩
theorem ok_spec_IncidencePicture (k : Nat) : FnOK Try.prog 5 (fe_spec_IncidencePicture k) := by
  refine closed_ok (tab := [(14, fe_spec_l05Ok k), (16, fe_spec_l30Incidence k)]) (l := [(7, 15, oc_spec_l30Done_g k)]) ti_ok ti_ht mix (List.forall_mem_cons.2 ⟨ok_spec_l05Ok k, (List.forall_mem_cons.2 ⟨ok_spec_l30Incidence k, (List.forall_mem_nil _)⟩)⟩) (List.forall_mem_cons.2 ⟨ok_spec_l30Done_g k, (List.forall_mem_nil _)⟩) ⟨⟨Try.f5, (codeOf Try.f5), [.tmp 2, .tmp 3], (LOn (List (List UInt8) × Int)), by kernel_rfl, by kernel_rfl, by kernel_rfl, by kernel_rfl, rfl, by decide, ⟨by kernel_rfl, ?_, ?_⟩, ?_⟩⟩
  · exact no_loops (by kernel_rfl)
  · exact no_cuts (by kernel_rfl)
  · rintro c0
    kernel_rfl
/- 55 loop.example/g01005/impl.isRising -/
def impl_isRising_l0 (k : Nat) : Nat → (List Int) → Int → (Option Bool) → Option Bool
  | 0, _, _, _ => none
  | n + 1, list0, k3, e_0 => (if (decide (k3 < (List.length list0 : Int))) = true then (if 0 ≤ (w_i64 (k3 - 1)) then (list0[(w_i64 (k3 - 1)).toNat]?).bind fun y_1 => (if 0 ≤ k3 then (list0[k3.toNat]?).bind fun y_2 => (if (decide (y_2 ≤ y_1)) = true then some false else impl_isRising_l0 k n list0 (w_i64 (k3 + 1)) e_0) else none) else none) else e_0)
def impl_isRising (k : Nat) (list0 : List Int) : Option Bool := impl_isRising_l0 k k list0 1 (some true)
def impl_isRising_l0_h : Head := ⟨[(0, (.val (.sl 2 (.int .i64)))), (3, (.val (.int .i64)))], [], []⟩
def impl_isRising_l0_x0 : Head := ⟨[], [], []⟩
def impl_isRising_l0_F (k n : Nat) (x : impl_isRising_l0_h.T) (kx : Nat → St → Option Bool) : Option Bool := impl_isRising_l0 k n x.1.1 x.1.2.1 (kx 0 (impl_isRising_l0_x0.fill ((), (), ())))
def impl_isRising_O (k : Nat) : Oracles Bool := ⟨fun n => bif Nat.beq n 2 then some (fun σ kx => impl_isRising_l0_h.get σ fun x => impl_isRising_l0_F k k x kx) else none, fun _ => none⟩
def fe_impl_isRising (k : Nat) : FE := ⟨(.sl 2 (.int .i64)), 1, .bool, fun x => impl_isRising k x⟩
theorem impl_isRising_l0_ok (k : Nat) : LoopOK (mkEnv ti [] (lk []) pins0 pinB0) (impl_isRising_O k) (rdC (mkEnv ti [] (lk []) pins0 pinB0) [.tmp 2] .bool) ((loopsOf (codeOf Try.f55)).getD 0 .skip) (fun σ kx => impl_isRising_l0_h.get σ fun x => impl_isRising_l0_F k k x kx) := by
  refine ⟨impl_isRising_l0_h, [(0, impl_isRising_l0_x0)], fun n x kx => impl_isRising_l0_F k n x kx, k, by kernel_rfl, by kernel_rfl, fun x kx => by kernel_rfl, ?_, fun σ kx => rfl⟩
  rintro n ⟨⟨list0, k3, ⟨⟩⟩, ⟨⟩, ⟨⟩⟩ kx
  kernel_rfl
theorem ok_impl_isRising (k : Nat) : FnOK Try.prog 55 (fe_impl_isRising k) := by
  refine closed_ok (tab := []) (l := []) ti_ok ti_ht mix (List.forall_mem_nil _) (List.forall_mem_nil _) ⟨⟨Try.f55, (codeOf Try.f55), [.tmp 2], (impl_isRising_O k), by kernel_rfl, by kernel_rfl, by kernel_rfl, by kernel_rfl, rfl, by decide, ⟨by kernel_rfl, ?_, ?_⟩, ?_⟩⟩
  · refine loops_of (n := 1) (by kernel_rfl) fun i hi => ?_
    match i, hi with
    | 0, _ => exact loop_of (by kernel_rfl) (impl_isRising_l0_ok k)
    | n + 1, hi => omega
  · exact no_cuts (by kernel_rfl)
  · rintro list0
    kernel_rfl
/- 73 loop.example/g01005/impl.within -/
def impl_within (n0 : Int) (low1 : Int) (high2 : Int) : Option Bool := (if (decide (low1 ≤ n0)) = true then some (decide (n0 ≤ high2)) else some false)
def fe_impl_within : FE := ⟨(.pr (.int .i64) (.pr (.int .i64) (.int .i64))), 1, .bool, fun x => impl_within x.1 x.2.1 x.2.2⟩
theorem ok_impl_within : FnOK Try.prog 73 (fe_impl_within) := by
  refine closed_ok (tab := []) (l := []) ti_ok ti_ht mix (List.forall_mem_nil _) (List.forall_mem_nil _) ⟨⟨Try.f73, (codeOf Try.f73), [.tmp 6], (LOn Bool), by kernel_rfl, by kernel_rfl, by kernel_rfl, by kernel_rfl, rfl, by decide, ⟨by kernel_rfl, ?_, ?_⟩, ?_⟩⟩
  · exact no_loops (by kernel_rfl)
  · exact no_cuts (by kernel_rfl)
  · rintro ⟨n0, low1, high2⟩
    kernel_rfl
/- 58 loop.example/g01005/impl.isVertex -/
def impl_isVertex (v0 : Int) : Option Bool := (impl_within v0 0 9).bind fun r_1 => some r_1
def fe_impl_isVertex : FE := ⟨(.int .i64), 1, .bool, fun x => impl_isVertex x⟩
theorem ok_impl_isVertex : FnOK Try.prog 58 (fe_impl_isVertex) := by
  refine closed_ok (tab := [(73, fe_impl_within)]) (l := []) ti_ok ti_ht mix (List.forall_mem_cons.2 ⟨ok_impl_within, (List.forall_mem_nil _)⟩) (List.forall_mem_nil _) ⟨⟨Try.f58, (codeOf Try.f58), [.tmp 2], (LOn Bool), by kernel_rfl, by kernel_rfl, by kernel_rfl, by kernel_rfl, rfl, by decide, ⟨by kernel_rfl, ?_, ?_⟩, ?_⟩⟩
  · exact no_loops (by kernel_rfl)
  · exact no_cuts (by kernel_rfl)
  · rintro v0
    kernel_rfl
/- 57 loop.example/g01005/impl.ValidSimplex$1 -/
def impl_ValidSimplex_1 (v0 : Int) : Option Bool := (impl_isVertex v0).bind fun r_1 => some (!r_1)
def fe_impl_ValidSimplex_1 : FE := ⟨(.int .i64), 1, .bool, fun x => impl_ValidSimplex_1 x⟩
theorem ok_impl_ValidSimplex_1 : FnOK Try.prog 57 (fe_impl_ValidSimplex_1) := by
  refine closed_ok (tab := [(58, fe_impl_isVertex)]) (l := []) ti_ok ti_ht mix (List.forall_mem_cons.2 ⟨ok_impl_isVertex, (List.forall_mem_nil _)⟩) (List.forall_mem_nil _) ⟨⟨Try.f57, (codeOf Try.f57), [.tmp 2], (LOn Bool), by kernel_rfl, by kernel_rfl, by kernel_rfl, by kernel_rfl, rfl, by decide, ⟨by kernel_rfl, ?_, ?_⟩, ?_⟩⟩
  · exact no_loops (by kernel_rfl)
  · exact no_cuts (by kernel_rfl)
  · rintro v0
    kernel_rfl
/- 72 slices.IndexFunc[[]int64,int64] -/
def slices_IndexFunc_int64__impl_ValidSimplex_1_l0 (k : Nat) : Nat → (List Int) → Unit → Int → Int → (Option Int) → Option Int
  | 0, _, _, _, _, _ => none
  | n + 1, s0, f1, x7, x8, e_0 => (if (decide (x8 < x7)) = true then (if 0 ≤ x8 then (s0[x8.toNat]?).bind fun y_1 => (impl_ValidSimplex_1 y_1).bind fun r_2 => (if r_2 = true then some x8 else slices_IndexFunc_int64__impl_ValidSimplex_1_l0 k n s0 f1 x7 (w_i64 (x8 + 1)) e_0) else none) else e_0)
def slices_IndexFunc_int64__impl_ValidSimplex_1 (k : Nat) (s0 : List Int) (f1 : Unit) : Option Int := slices_IndexFunc_int64__impl_ValidSimplex_1_l0 k k s0 f1 (List.length s0 : Int) 0 (some (-1))
def slices_IndexFunc_int64__impl_ValidSimplex_1_l0_h : Head := ⟨[(0, (.val (.sl 2 (.int .i64)))), (1, (.val (.fn 57 .un))), (7, (.val (.int .i64))), (8, (.val (.int .i64)))], [], []⟩
def slices_IndexFunc_int64__impl_ValidSimplex_1_l0_x0 : Head := ⟨[], [], []⟩
def slices_IndexFunc_int64__impl_ValidSimplex_1_l0_F (k n : Nat) (x : slices_IndexFunc_int64__impl_ValidSimplex_1_l0_h.T) (kx : Nat → St → Option Int) : Option Int := slices_IndexFunc_int64__impl_ValidSimplex_1_l0 k n x.1.1 x.1.2.1 x.1.2.2.1 x.1.2.2.2.1 (kx 0 (slices_IndexFunc_int64__impl_ValidSimplex_1_l0_x0.fill ((), (), ())))
def slices_IndexFunc_int64__impl_ValidSimplex_1_O (k : Nat) : Oracles Int := ⟨fun n => bif Nat.beq n 2 then some (fun σ kx => slices_IndexFunc_int64__impl_ValidSimplex_1_l0_h.get σ fun x => slices_IndexFunc_int64__impl_ValidSimplex_1_l0_F k k x kx) else none, fun _ => none⟩
def fe_slices_IndexFunc_int64__impl_ValidSimplex_1 (k : Nat) : FE := ⟨(.pr (.sl 2 (.int .i64)) (.fn 57 .un)), 1, (.int .i64), fun x => slices_IndexFunc_int64__impl_ValidSimplex_1 k x.1 x.2⟩
theorem slices_IndexFunc_int64__impl_ValidSimplex_1_l0_ok (k : Nat) : LoopOK (mkEnv ti [(57, fe_impl_ValidSimplex_1)] (lk []) pins0 pinB0) (slices_IndexFunc_int64__impl_ValidSimplex_1_O k) (rdC (mkEnv ti [(57, fe_impl_ValidSimplex_1)] (lk []) pins0 pinB0) [.tmp 4] (.int .i64)) ((loopsOf (codeOf Try.f72)).getD 0 .skip) (fun σ kx => slices_IndexFunc_int64__impl_ValidSimplex_1_l0_h.get σ fun x => slices_IndexFunc_int64__impl_ValidSimplex_1_l0_F k k x kx) := by
  refine ⟨slices_IndexFunc_int64__impl_ValidSimplex_1_l0_h, [(0, slices_IndexFunc_int64__impl_ValidSimplex_1_l0_x0)], fun n x kx => slices_IndexFunc_int64__impl_ValidSimplex_1_l0_F k n x kx, k, by kernel_rfl, by kernel_rfl, fun x kx => by kernel_rfl, ?_, fun σ kx => rfl⟩
  rintro n ⟨⟨s0, f1, x7, x8, ⟨⟩⟩, ⟨⟩, ⟨⟩⟩ kx
  kernel_rfl
theorem ok_slices_IndexFunc_int64__impl_ValidSimplex_1 (k : Nat) : FnOK Try.prog 72 (fe_slices_IndexFunc_int64__impl_ValidSimplex_1 k) := by
  refine closed_ok (tab := [(57, fe_impl_ValidSimplex_1)]) (l := []) ti_ok ti_ht mix (List.forall_mem_cons.2 ⟨ok_impl_ValidSimplex_1, (List.forall_mem_nil _)⟩) (List.forall_mem_nil _) ⟨⟨Try.f72, (codeOf Try.f72), [.tmp 4], (slices_IndexFunc_int64__impl_ValidSimplex_1_O k), by kernel_rfl, by kernel_rfl, by kernel_rfl, by kernel_rfl, rfl, by decide, ⟨by kernel_rfl, ?_, ?_⟩, ?_⟩⟩
  · refine loops_of (n := 1) (by kernel_rfl) fun i hi => ?_
    match i, hi with
    | 0, _ => exact loop_of (by kernel_rfl) (slices_IndexFunc_int64__impl_ValidSimplex_1_l0_ok k)
    | n + 1, hi => omega
  · exact no_cuts (by kernel_rfl)
  · rintro ⟨s0, f1⟩
    kernel_rfl
/- 56 slices.ContainsFunc[[]int64,int64] -/
def slices_ContainsFunc_int64__impl_ValidSimplex_1 (k : Nat) (s0 : List Int) (f1 : Unit) : Option Bool := (slices_IndexFunc_int64__impl_ValidSimplex_1 k s0 f1).bind fun r_1 => some (decide (0 ≤ r_1))
def fe_slices_ContainsFunc_int64__impl_ValidSimplex_1 (k : Nat) : FE := ⟨(.pr (.sl 2 (.int .i64)) (.fn 57 .un)), 1, .bool, fun x => slices_ContainsFunc_int64__impl_ValidSimplex_1 k x.1 x.2⟩
theorem ok_slices_ContainsFunc_int64__impl_ValidSimplex_1 (k : Nat) : FnOK Try.prog 56 (fe_slices_ContainsFunc_int64__impl_ValidSimplex_1 k) := by
  refine closed_ok (tab := [(72, fe_slices_IndexFunc_int64__impl_ValidSimplex_1 k)]) (l := []) ti_ok ti_ht mix (List.forall_mem_cons.2 ⟨ok_slices_IndexFunc_int64__impl_ValidSimplex_1 k, (List.forall_mem_nil _)⟩) (List.forall_mem_nil _) ⟨⟨Try.f56, (codeOf Try.f56), [.tmp 4], (LOn Bool), by kernel_rfl, by kernel_rfl, by kernel_rfl, by kernel_rfl, rfl, by decide, ⟨by kernel_rfl, ?_, ?_⟩, ?_⟩⟩
  · exact no_loops (by kernel_rfl)
  · exact no_cuts (by kernel_rfl)
  · rintro ⟨s0, f1⟩
    kernel_rfl
/- 34 loop.example/g01005/impl.ValidSimplex -/
def impl_ValidSimplex (k : Nat) (s0 : List Int) : Option Bool := (if (decide (1 ≤ (List.length s0 : Int))) = true then (if (decide ((List.length s0 : Int) ≤ 4)) = true then (impl_isRising k s0).bind fun r_1 => (if r_1 = true then (slices_ContainsFunc_int64__impl_ValidSimplex_1 k s0 ()).bind fun r_2 => some (!r_2) else some false) else some false) else some false)
def fe_impl_ValidSimplex (k : Nat) : FE := ⟨(.sl 2 (.int .i64)), 1, .bool, fun x => impl_ValidSimplex k x⟩
theorem ok_impl_ValidSimplex (k : Nat) : FnOK Try.prog 34 (fe_impl_ValidSimplex k) := by
  refine closed_ok (tab := [(55, fe_impl_isRising k), (56, fe_slices_ContainsFunc_int64__impl_ValidSimplex_1 k)]) (l := []) ti_ok ti_ht mix (List.forall_mem_cons.2 ⟨ok_impl_isRising k, (List.forall_mem_cons.2 ⟨ok_slices_ContainsFunc_int64__impl_ValidSimplex_1 k, (List.forall_mem_nil _)⟩)⟩) (List.forall_mem_nil _) ⟨⟨Try.f34, (codeOf Try.f34), [.tmp 2], (LOn Bool), by kernel_rfl, by kernel_rfl, by kernel_rfl, by kernel_rfl, rfl, by decide, ⟨by kernel_rfl, ?_, ?_⟩, ?_⟩⟩
  · exact no_loops (by kernel_rfl)
  · exact no_cuts (by kernel_rfl)
  · rintro s0
    kernel_rfl
/- 74 cmp.isNaN[int] -/
def cmp_isNaN_int (x0 : Int) : Option Bool := some (!(decide (x0 = x0)))
def fe_cmp_isNaN_int : FE := ⟨(.int .i64), 1, .bool, fun x => cmp_isNaN_int x⟩
theorem ok_cmp_isNaN_int : FnOK Try.prog 74 (fe_cmp_isNaN_int) := by
  refine closed_ok (tab := []) (l := []) ti_ok ti_ht mix (List.forall_mem_nil _) (List.forall_mem_nil _) ⟨⟨Try.f74, (codeOf Try.f74), [.tmp 2], (LOn Bool), by kernel_rfl, by kernel_rfl, by kernel_rfl, by kernel_rfl, rfl, by decide, ⟨by kernel_rfl, ?_, ?_⟩, ?_⟩⟩
  · exact no_loops (by kernel_rfl)
  · exact no_cuts (by kernel_rfl)
  · rintro x0
    kernel_rfl
/- 60 cmp.Compare[int] -/
def cmp_Compare_int (x0 : Int) (y1 : Int) : Option Int := (cmp_isNaN_int x0).bind fun r_1 => (cmp_isNaN_int y1).bind fun r_2 => (if r_1 = true then (if r_2 = true then some 0 else some (-1)) else (if r_2 = true then some 1 else (if (decide (x0 < y1)) = true then some (-1) else (if (decide (y1 < x0)) = true then some 1 else some 0))))
def fe_cmp_Compare_int : FE := ⟨(.pr (.int .i64) (.int .i64)), 1, (.int .i64), fun x => cmp_Compare_int x.1 x.2⟩
theorem ok_cmp_Compare_int : FnOK Try.prog 60 (fe_cmp_Compare_int) := by
  refine closed_ok (tab := [(74, fe_cmp_isNaN_int)]) (l := []) ti_ok ti_ht mix (List.forall_mem_cons.2 ⟨ok_cmp_isNaN_int, (List.forall_mem_nil _)⟩) (List.forall_mem_nil _) ⟨⟨Try.f60, (codeOf Try.f60), [.tmp 4], (LOn Int), by kernel_rfl, by kernel_rfl, by kernel_rfl, by kernel_rfl, rfl, by decide, ⟨by kernel_rfl, ?_, ?_⟩, ?_⟩⟩
  · exact no_loops (by kernel_rfl)
  · exact no_cuts (by kernel_rfl)
  · rintro ⟨x0, y1⟩
    kernel_rfl
/- 81 cmp.isNaN[int64] -/
def cmp_isNaN_int64 (x0 : Int) : Option Bool := some (!(decide (x0 = x0)))
def fe_cmp_isNaN_int64 : FE := ⟨(.int .i64), 1, .bool, fun x => cmp_isNaN_int64 x⟩
theorem ok_cmp_isNaN_int64 : FnOK Try.prog 81 (fe_cmp_isNaN_int64) := by
  refine closed_ok (tab := []) (l := []) ti_ok ti_ht mix (List.forall_mem_nil _) (List.forall_mem_nil _) ⟨⟨Try.f81, (codeOf Try.f81), [.tmp 2], (LOn Bool), by kernel_rfl, by kernel_rfl, by kernel_rfl, by kernel_rfl, rfl, by decide, ⟨by kernel_rfl, ?_, ?_⟩, ?_⟩⟩
  · exact no_loops (by kernel_rfl)
  · exact no_cuts (by kernel_rfl)
  · rintro x0
    kernel_rfl
/- 75 cmp.Compare[int64] -/
def cmp_Compare_int64 (x0 : Int) (y1 : Int) : Option Int := (cmp_isNaN_int64 x0).bind fun r_1 => (cmp_isNaN_int64 y1).bind fun r_2 => (if r_1 = true then (if r_2 = true then some 0 else some (-1)) else (if r_2 = true then some 1 else (if (decide (x0 < y1)) = true then some (-1) else (if (decide (y1 < x0)) = true then some 1 else some 0))))
def fe_cmp_Compare_int64 : FE := ⟨(.pr (.int .i64) (.int .i64)), 1, (.int .i64), fun x => cmp_Compare_int64 x.1 x.2⟩
theorem ok_cmp_Compare_int64 : FnOK Try.prog 75 (fe_cmp_Compare_int64) := by
  refine closed_ok (tab := [(81, fe_cmp_isNaN_int64)]) (l := []) ti_ok ti_ht mix (List.forall_mem_cons.2 ⟨ok_cmp_isNaN_int64, (List.forall_mem_nil _)⟩) (List.forall_mem_nil _) ⟨⟨Try.f75, (codeOf Try.f75), [.tmp 4], (LOn Int), by kernel_rfl, by kernel_rfl, by kernel_rfl, by kernel_rfl, rfl, by decide, ⟨by kernel_rfl, ?_, ?_⟩, ?_⟩⟩
  · exact no_loops (by kernel_rfl)
  · exact no_cuts (by kernel_rfl)
  · rintro ⟨x0, y1⟩
    kernel_rfl
/- 61 slices.Compare[[]int64,int64] -/
def slices_Compare_int64_l0 (k : Nat) : Nat → (List Int) → (List Int) → (List Int) → Int → Int → ((List Int) → (List Int) → Option Int) → Option Int
  | 0, _, _, _, _, _, _ => none
  | n + 1, s10, s21, x9, x10, x11, e_0 => (if (decide (x11 < x10)) = true then (if 0 ≤ x11 then (x9[x11.toNat]?).bind fun y_1 => (if (decide ((List.length s21 : Int) ≤ x11)) = true then some 1 else (if 0 ≤ x11 then (s21[x11.toNat]?).bind fun y_2 => (cmp_Compare_int64 y_1 y_2).bind fun r_3 => (if (!(decide (r_3 = 0))) = true then some r_3 else slices_Compare_int64_l0 k n s10 s21 x9 x10 (w_i64 (x11 + 1)) e_0) else none)) else none) else e_0 s10 s21)
def slices_Compare_int64 (k : Nat) (s10 : List Int) (s21 : List Int) : Option Int := slices_Compare_int64_l0 k k s10 s21 s10 (List.length s10 : Int) 0 (fun s_4 s_5 => (if (decide ((List.length s_4 : Int) < (List.length s_5 : Int))) = true then some (-1) else some 0))
def slices_Compare_int64_l0_h : Head := ⟨[(0, (.val (.sl 2 (.int .i64)))), (1, (.val (.sl 2 (.int .i64)))), (9, (.val (.sl 2 (.int .i64)))), (10, (.val (.int .i64))), (11, (.val (.int .i64)))], [], []⟩
def slices_Compare_int64_l0_x0 : Head := ⟨[(0, (.val (.sl 2 (.int .i64)))), (1, (.val (.sl 2 (.int .i64))))], [], []⟩
def slices_Compare_int64_l0_F (k n : Nat) (x : slices_Compare_int64_l0_h.T) (kx : Nat → St → Option Int) : Option Int := slices_Compare_int64_l0 k n x.1.1 x.1.2.1 x.1.2.2.1 x.1.2.2.2.1 x.1.2.2.2.2.1 (fun (s10 : List Int) (s21 : List Int) => kx 0 (slices_Compare_int64_l0_x0.fill ((s10, s21, ()), (), ())))
def slices_Compare_int64_O (k : Nat) : Oracles Int := ⟨fun n => bif Nat.beq n 2 then some (fun σ kx => slices_Compare_int64_l0_h.get σ fun x => slices_Compare_int64_l0_F k k x kx) else none, fun _ => none⟩
def fe_slices_Compare_int64 (k : Nat) : FE := ⟨(.pr (.sl 2 (.int .i64)) (.sl 2 (.int .i64))), 1, (.int .i64), fun x => slices_Compare_int64 k x.1 x.2⟩
theorem slices_Compare_int64_l0_ok (k : Nat) : LoopOK (mkEnv ti [(75, fe_cmp_Compare_int64)] (lk []) pins0 pinB0) (slices_Compare_int64_O k) (rdC (mkEnv ti [(75, fe_cmp_Compare_int64)] (lk []) pins0 pinB0) [.tmp 4] (.int .i64)) ((loopsOf (codeOf Try.f61)).getD 0 .skip) (fun σ kx => slices_Compare_int64_l0_h.get σ fun x => slices_Compare_int64_l0_F k k x kx) := by
  refine ⟨slices_Compare_int64_l0_h, [(0, slices_Compare_int64_l0_x0)], fun n x kx => slices_Compare_int64_l0_F k n x kx, k, by kernel_rfl, by kernel_rfl, fun x kx => by kernel_rfl, ?_, fun σ kx => rfl⟩
  rintro n ⟨⟨s10, s21, x9, x10, x11, ⟨⟩⟩, ⟨⟩, ⟨⟩⟩ kx
  kernel_rfl
theorem ok_slices_Compare_int64 (k : Nat) : FnOK Try.prog 61 (fe_slices_Compare_int64 k) := by
  refine closed_ok (tab := [(75, fe_cmp_Compare_int64)]) (l := []) ti_ok ti_ht mix (List.forall_mem_cons.2 ⟨ok_cmp_Compare_int64, (List.forall_mem_nil _)⟩) (List.forall_mem_nil _) ⟨⟨Try.f61, (codeOf Try.f61), [.tmp 4], (slices_Compare_int64_O k), by kernel_rfl, by kernel_rfl, by kernel_rfl, by kernel_rfl, rfl, by decide, ⟨by kernel_rfl, ?_, ?_⟩, ?_⟩⟩
  · refine loops_of (n := 1) (by kernel_rfl) fun i hi => ?_
    match i, hi with
    | 0, _ => exact loop_of (by kernel_rfl) (slices_Compare_int64_l0_ok k)
    | n + 1, hi => omega
  · exact no_cuts (by kernel_rfl)
  · rintro ⟨s10, s21⟩
    kernel_rfl
/- 59 cmp.Or[int] -/
def cmp_Or_int_l0 (k : Nat) : Nat → Int → (List Int) → Int → Int → (Int → Option Int) → Option Int
  | 0, _, _, _, _, _ => none
  | n + 1, zero3, x6, x7, x8, e_0 => (if (decide (x8 < x7)) = true then (if 0 ≤ x8 then (x6[x8.toNat]?).bind fun y_1 => (if (!(decide (y_1 = zero3))) = true then some y_1 else cmp_Or_int_l0 k n zero3 x6 x7 (w_i64 (x8 + 1)) e_0) else none) else e_0 zero3)
def cmp_Or_int (k : Nat) (vals0 : List Int) : Option Int := cmp_Or_int_l0 k k 0 vals0 (List.length vals0 : Int) 0 (fun zero_2 => some zero_2)
def cmp_Or_int_l0_h : Head := ⟨[(3, (.val (.int .i64))), (6, (.val (.sl 3 (.int .i64)))), (7, (.val (.int .i64))), (8, (.val (.int .i64)))], [], []⟩
def cmp_Or_int_l0_x0 : Head := ⟨[(3, (.val (.int .i64)))], [], []⟩
def cmp_Or_int_l0_F (k n : Nat) (x : cmp_Or_int_l0_h.T) (kx : Nat → St → Option Int) : Option Int := cmp_Or_int_l0 k n x.1.1 x.1.2.1 x.1.2.2.1 x.1.2.2.2.1 (fun (zero3 : Int) => kx 0 (cmp_Or_int_l0_x0.fill ((zero3, ()), (), ())))
def cmp_Or_int_O (k : Nat) : Oracles Int := ⟨fun n => bif Nat.beq n 3 then some (fun σ kx => cmp_Or_int_l0_h.get σ fun x => cmp_Or_int_l0_F k k x kx) else none, fun _ => none⟩
def fe_cmp_Or_int (k : Nat) : FE := ⟨(.sl 3 (.int .i64)), 1, (.int .i64), fun x => cmp_Or_int k x⟩
theorem cmp_Or_int_l0_ok (k : Nat) : LoopOK (mkEnv ti [] (lk []) pins0 pinB0) (cmp_Or_int_O k) (rdC (mkEnv ti [] (lk []) pins0 pinB0) [.tmp 2] (.int .i64)) ((loopsOf (codeOf Try.f59)).getD 0 .skip) (fun σ kx => cmp_Or_int_l0_h.get σ fun x => cmp_Or_int_l0_F k k x kx) := by
  refine ⟨cmp_Or_int_l0_h, [(0, cmp_Or_int_l0_x0)], fun n x kx => cmp_Or_int_l0_F k n x kx, k, by kernel_rfl, by kernel_rfl, fun x kx => by kernel_rfl, ?_, fun σ kx => rfl⟩
  rintro n ⟨⟨zero3, x6, x7, x8, ⟨⟩⟩, ⟨⟩, ⟨⟩⟩ kx
  kernel_rfl
theorem ok_cmp_Or_int (k : Nat) : FnOK Try.prog 59 (fe_cmp_Or_int k) := by
  refine closed_ok (tab := []) (l := []) ti_ok ti_ht mix (List.forall_mem_nil _) (List.forall_mem_nil _) ⟨⟨Try.f59, (codeOf Try.f59), [.tmp 2], (cmp_Or_int_O k), by kernel_rfl, by kernel_rfl, by kernel_rfl, by kernel_rfl, rfl, by decide, ⟨by kernel_rfl, ?_, ?_⟩, ?_⟩⟩
  · refine loops_of (n := 1) (by kernel_rfl) fun i hi => ?_
    match i, hi with
    | 0, _ => exact loop_of (by kernel_rfl) (cmp_Or_int_l0_ok k)
    | n + 1, hi => omega
  · exact no_cuts (by kernel_rfl)
  · rintro vals0
    kernel_rfl
/- 35 loop.example/g01005/impl.compareSimplices -/
def impl_compareSimplices (k : Nat) (a0 : List Int) (b1 : List Int) : Option Int := (cmp_Compare_int (List.length a0 : Int) (List.length b1 : Int)).bind fun r_1 => (slices_Compare_int64 k a0 b1).bind fun r_2 => (cmp_Or_int k [r_1, r_2]).bind fun r_3 => some r_3
def fe_impl_compareSimplices (k : Nat) : FE := ⟨(.pr (.sl 2 (.int .i64)) (.sl 2 (.int .i64))), 1, (.int .i64), fun x => impl_compareSimplices k x.1 x.2⟩
theorem ok_impl_compareSimplices (k : Nat) : FnOK Try.prog 35 (fe_impl_compareSimplices k) := by
  refine closed_ok (tab := [(60, fe_cmp_Compare_int), (61, fe_slices_Compare_int64 k), (59, fe_cmp_Or_int k)]) (l := []) ti_ok ti_ht mix (List.forall_mem_cons.2 ⟨ok_cmp_Compare_int, (List.forall_mem_cons.2 ⟨ok_slices_Compare_int64 k, (List.forall_mem_cons.2 ⟨ok_cmp_Or_int k, (List.forall_mem_nil _)⟩)⟩)⟩) (List.forall_mem_nil _) ⟨⟨Try.f35, (codeOf Try.f35), [.tmp 4], (LOn Int), by kernel_rfl, by kernel_rfl, by kernel_rfl, by kernel_rfl, rfl, by decide, ⟨by kernel_rfl, ?_, ?_⟩, ?_⟩⟩
  · exact no_loops (by kernel_rfl)
  · exact no_cuts (by kernel_rfl)
  · rintro ⟨a0, b1⟩
    kernel_rfl
/- 76 slices.Grow[[]int64,int64] (off the shelf) -/
def slices_Grow_int64_s (n1 : Int) (q_1 : List Int) : Option ((Unit × Unit) × (List Int × Unit) × Unit) := if 0 ≤ n1 ∧ (List.length q_1 + (n1).toNat) * 8 ≤ LIM then some (((), ()), (q_1, ()), ()) else none
def oc_slices_Grow_int64_s : OC := oc_grow 2 (.int .i64) 8
theorem ok_slices_Grow_int64_s : OpenOK Try.prog ti 76 oc_slices_Grow_int64_s :=
  ok_grow_at (ρ := (⟨fun n => bif Nat.beq n 4 then 76 else n, fun n => bif Nat.beq n 22 then 43 else bif Nat.beq n 25 then 2 else n, fun n => n⟩ : Go.Shelf.Ren)) ti_ok (e := 2) (t := (.int .i64)) (bytes := 8) { mixed := mix, f4 := ⟨Try.f76.name, by kernel_rfl, (Try.func76).trans (congrArg some (by kernel_rfl))⟩, t0 := Try.underlying0, a0 := Try.isAgg0, z0 := Try.sizeOf0, v0 := Try.zeroValue0, t3 := Try.underlying3, a3 := Try.isAgg3, z3 := Try.sizeOf3, v3 := Try.zeroValue3, t4 := Try.underlying4, a4 := Try.isAgg4, z4 := Try.sizeOf4, v4 := Try.zeroValue4, t9 := Try.underlying9, a9 := Try.isAgg9, z9 := Try.sizeOf9, v9 := Try.zeroValue9, t20 := Try.underlying20, a20 := Try.isAgg20, z20 := Try.sizeOf20, v20 := Try.zeroValue20, t22 := Try.underlying43, a22 := Try.isAgg43, z22 := Try.sizeOf43, v22 := Try.zeroValue43 } rfl (i := (ti[2]?).getD ⟨.oth, .un, 0⟩) (by kernel_rfl) (by kernel_rfl) (by kernel_rfl) (by kernel_rfl) (by kernel_rfl) (by kernel_rfl)
end
end Go.Proofs.Ytnlpjpfpjnmjmaa.Ev
