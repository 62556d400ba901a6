/- Functions of the program, as plain ones. No conditions. -/
import Derived.Test.YtkopnopjbaejjaaG4
import Derived.KernelRfl
set_option linter.unusedVariables false
set_option maxRecDepth 100000
namespace Go.Proofs.Ytkopnopjbaejjaa.Ev
open Go.RowKit
noncomputable section
/- 78 loop.example/g01005/spec.l30Times -/
def spec_l30Times_l0 (k : Nat) : Nat → (List UInt8) → Int → (List UInt8) → Int → ((List UInt8) → Option (List UInt8)) → Option (List UInt8)
  | 0, _, _, _, _, _ => none
  | n + 1, c0, n1, out5, k6, e_0 => (if (decide (k6 < n1)) = true then (if out5.length + c0.length ≤ 9223372036854775807 then spec_l30Times_l0 k n c0 n1 (out5 ++ c0) (w_i64 (k6 + 1)) e_0 else none) else e_0 out5)
def spec_l30Times (k : Nat) (c0 : List UInt8) (n1 : Int) : Option (List UInt8) := spec_l30Times_l0 k k c0 n1 [] 0 (fun out_1 => some out_1)
def spec_l30Times_l0_h : Head := ⟨[(0, (.val .str)), (1, (.val (.int .i64))), (5, (.val .str)), (6, (.val (.int .i64)))], [], []⟩
def spec_l30Times_l0_x0 : Head := ⟨[(5, (.val .str))], [], []⟩
def spec_l30Times_l0_F (k n : Nat) (x : spec_l30Times_l0_h.T) (kx : Nat → St → Option (List UInt8)) : Option (List UInt8) := spec_l30Times_l0 k n x.1.1 x.1.2.1 x.1.2.2.1 x.1.2.2.2.1 (fun (out5 : List UInt8) => kx 0 (spec_l30Times_l0_x0.fill ((out5, ()), (), ())))
def spec_l30Times_O (k : Nat) : Oracles (List UInt8) := ⟨fun n => bif Nat.beq n 3 then some (fun σ kx => spec_l30Times_l0_h.get σ fun x => spec_l30Times_l0_F k k x kx) else none, fun _ => none⟩
def fe_spec_l30Times (k : Nat) : FE := ⟨(.pr .str (.int .i64)), 1, .str, fun x => spec_l30Times k x.1 x.2⟩
theorem spec_l30Times_l0_ok (k : Nat) : LoopOK (mkEnv ti [] (lk []) pins0 pinB0) (spec_l30Times_O k) (rdC (mkEnv ti [] (lk []) pins0 pinB0) [.tmp 4] .str) ((loopsOf (codeOf Try.f78)).getD 0 .skip) (fun σ kx => spec_l30Times_l0_h.get σ fun x => spec_l30Times_l0_F k k x kx) := by
  refine ⟨spec_l30Times_l0_h, [(0, spec_l30Times_l0_x0)], fun n x kx => spec_l30Times_l0_F k n x kx, k, by kernel_rfl, by kernel_rfl, fun x kx => by kernel_rfl, ?_, fun σ kx => rfl⟩
  rintro n ⟨⟨c0, n1, out5, k6, ⟨⟩⟩, ⟨⟩, ⟨⟩⟩ kx
  kernel_rfl
theorem ok_spec_l30Times (k : Nat) : FnOK Try.prog 78 (fe_spec_l30Times k) := by
  refine closed_ok (tab := []) (l := []) ti_ok ti_ht mix (List.forall_mem_nil _) (List.forall_mem_nil _) ⟨⟨Try.f78, (codeOf Try.f78), [.tmp 4], (spec_l30Times_O k), by kernel_rfl, by kernel_rfl, by kernel_rfl, by kernel_rfl, rfl, by decide, ⟨by kernel_rfl, ?_, ?_⟩, ?_⟩⟩
  · refine loops_of (n := 1) (by kernel_rfl) fun i hi => ?_
    match i, hi with
    | 0, _ => exact loop_of (by kernel_rfl) (spec_l30Times_l0_ok k)
    | n + 1, hi => omega
  · exact no_cuts (by kernel_rfl)
  · rintro ⟨c0, n1⟩
    kernel_rfl
/- 79 loop.example/g01005/spec.l30Done (open) -/
def spec_l30Done_g (k : Nat) (q_1 : List (List UInt8)) : Option ((((Unit × (Int × Unit)) × Unit) × ((List (List UInt8)) × Unit) × Unit)) := (spec_l30Ok k q_1).bind fun r_2 => (if (!r_2) = true then some ((((), (5, ())), ()), ([], ()), ()) else some ((((), (0, ())), ()), (q_1, ()), ()))
def spec_l30Done_g_hi : Head := ⟨[(0, (.ref 1000000000 []))], [(1000000000, 9, .str, false)], []⟩
def spec_l30Done_g_ho : Head := ⟨[(0, (.tup (.cns (.ref 64000000 []) (.cns (.val (.int .i64)) .nl))))], [(64000000, 9, .str, false)], []⟩
def oc_spec_l30Done_g (k : Nat) : OC := ⟨spec_l30Done_g_hi, spec_l30Done_g_ho, fun x => spec_l30Done_g k x.2.1.1⟩
theorem ok_spec_l30Done_g (k : Nat) : OpenOK Try.prog ti 79 (oc_spec_l30Done_g k) := by
  refine give_ok (tab := [(77, fe_spec_l30Ok k)]) (l := []) (n := 2) (t := (.pr (.sl 9 .str) (.int .i64))) ti_ok ti_ht mix (List.forall_mem_cons.2 ⟨ok_spec_l30Ok k, (List.forall_mem_nil _)⟩) (List.forall_mem_nil _) ⟨by kernel_rfl, by kernel_rfl, by kernel_rfl, by kernel_rfl, Try.f79, (codeOf Try.f79), [.tmp 2, .tmp 3], (LOn ((((Unit × (Int × Unit)) × Unit) × ((List (List UInt8)) × Unit) × Unit))), by kernel_rfl, by kernel_rfl, by kernel_rfl, by kernel_rfl, by kernel_rfl, Nat.le_of_ble_eq_true (by kernel_rfl), fun pins pinB => ⟨⟨by kernel_rfl, ?_, ?_⟩, ?_⟩⟩
  · exact no_loops (by kernel_rfl)
  · exact no_cuts (by kernel_rfl)
  · rintro ⟨⟨⟨⟩, ⟨⟩⟩, ⟨q_1, ⟨⟩⟩, ⟨⟩⟩
    kernel_rfl
/- 29 loop.example/g01005/spec.FramePicture -/
def spec_FramePicture_l0 (k : Nat) : Nat → (List (List UInt8)) → (List UInt8) → Int → (List (List UInt8)) → ((List UInt8) → (List (List UInt8)) → Option (List (List UInt8) × Int)) → Option (List (List UInt8) × Int)
  | 0, _, _, _, _, _ => none
  | n + 1, lines0, edge5, i7, q_4, e_0 => (if (decide (i7 < (List.length lines0 : Int))) = true then (if 0 ≤ i7 then (lines0[i7.toNat]?).bind fun y_5 => (if [124].length + y_5.length ≤ 9223372036854775807 then (if ([124] ++ y_5).length + [124].length ≤ 9223372036854775807 then (if (q_4.length + [(([124] ++ y_5) ++ [124])].length) * 16 ≤ LIM then spec_FramePicture_l0 k n lines0 edge5 (w_i64 (i7 + 1)) (q_4 ++ [(([124] ++ y_5) ++ [124])]) e_0 else none) else none) else none) else none) else e_0 edge5 q_4)
def spec_FramePicture (k : Nat) (lines0 : List (List UInt8)) : Option (List (List UInt8) × Int) := (spec_l30Ok k lines0).bind fun r_1 => (if (!r_1) = true then some ([], 1) else (if (decide (0 < (List.length lines0 : Int))) = true then (lines0[0]?).bind fun y_2 => (spec_l30Times k [45] (List.length y_2 : Int)).bind fun r_3 => (if [43].length + r_3.length ≤ 9223372036854775807 then (if ([43] ++ r_3).length + [43].length ≤ 9223372036854775807 then spec_FramePicture_l0 k k lines0 (([43] ++ r_3) ++ [43]) 0 [(([43] ++ r_3) ++ [43])] (fun edge_6 q_7 => (if (q_7.length + [edge_6].length) * 16 ≤ LIM then (spec_l30Done_g k (q_7 ++ [edge_6])).bind fun y_8 => some (y_8.2.1.1, y_8.1.1.2.1) else none)) else none) else none) else (spec_l30Times k [45] 0).bind fun r_9 => (if [43].length + r_9.length ≤ 9223372036854775807 then (if ([43] ++ r_9).length + [43].length ≤ 9223372036854775807 then spec_FramePicture_l0 k k lines0 (([43] ++ r_9) ++ [43]) 0 [(([43] ++ r_9) ++ [43])] (fun edge_10 q_11 => (if (q_11.length + [edge_10].length) * 16 ≤ LIM then (spec_l30Done_g k (q_11 ++ [edge_10])).bind fun y_12 => some (y_12.2.1.1, y_12.1.1.2.1) else none)) else none) else none)))
def spec_FramePicture_l0_h : Head := ⟨[(0, (.val (.sl 9 .str))), (5, (.val .str)), (6, (.ref 64000000 [])), (7, (.val (.int .i64)))], [(64000000, 9, .str, false)], []⟩
def spec_FramePicture_l0_x0 : Head := ⟨[(5, (.val .str)), (6, (.ref 64000000 []))], [(64000000, 9, .str, false)], []⟩
def spec_FramePicture_l0_F (k n : Nat) (x : spec_FramePicture_l0_h.T) (kx : Nat → St → Option (List (List UInt8) × Int)) : Option (List (List UInt8) × Int) := spec_FramePicture_l0 k n x.1.1 x.1.2.1 x.1.2.2.2.1 x.2.1.1 (fun (edge5 : List UInt8) (q_6 : List (List UInt8)) => kx 0 (spec_FramePicture_l0_x0.fill ((edge5, (), ()), (q_6, ()), ())))
def spec_FramePicture_O (k : Nat) : Oracles (List (List UInt8) × Int) := ⟨fun n => bif Nat.beq n 9 then some (fun σ kx => spec_FramePicture_l0_h.get σ fun x => spec_FramePicture_l0_F k k x kx) else none, fun _ => none⟩
def fe_spec_FramePicture (k : Nat) : FE := ⟨(.sl 9 .str), 2, (.pr (.sl 9 .str) (.int .i64)), fun x => spec_FramePicture k x⟩
theorem spec_FramePicture_l0_ok (k : Nat) : LoopOK (mkEnv ti [(77, fe_spec_l30Ok k), (78, fe_spec_l30Times k)] (lk [(43, 79, oc_spec_l30Done_g k)]) pins0 pinB0) (spec_FramePicture_O k) (rdC (mkEnv ti [(77, fe_spec_l30Ok k), (78, fe_spec_l30Times k)] (lk [(43, 79, oc_spec_l30Done_g k)]) pins0 pinB0) [.tmp 2, .tmp 3] (.pr (.sl 9 .str) (.int .i64))) ((loopsOf (codeOf Try.f29)).getD 0 .skip) (fun σ kx => spec_FramePicture_l0_h.get σ fun x => spec_FramePicture_l0_F k k x kx) := by
  refine ⟨spec_FramePicture_l0_h, [(0, spec_FramePicture_l0_x0)], fun n x kx => spec_FramePicture_l0_F k n x kx, k, by kernel_rfl, by kernel_rfl, fun x kx => by kernel_rfl, ?_, fun σ kx => rfl⟩
  rintro n ⟨⟨lines0, edge5, ⟨⟩, i7, ⟨⟩⟩, ⟨q_4, ⟨⟩⟩, ⟨⟩⟩ kx
  kernel_rfl
theorem ok_spec_FramePicture (k : Nat) : FnOK Try.prog 29 (fe_spec_FramePicture k) := by
  refine closed_ok (tab := [(77, fe_spec_l30Ok k), (78, fe_spec_l30Times k)]) (l := [(43, 79, oc_spec_l30Done_g k)]) ti_ok ti_ht mix (List.forall_mem_cons.2 ⟨ok_spec_l30Ok k, (List.forall_mem_cons.2 ⟨ok_spec_l30Times k, (List.forall_mem_nil _)⟩)⟩) (List.forall_mem_cons.2 ⟨ok_spec_l30Done_g k, (List.forall_mem_nil _)⟩) ⟨⟨Try.f29, (codeOf Try.f29), [.tmp 2, .tmp 3], (spec_FramePicture_O k), by kernel_rfl, by kernel_rfl, by kernel_rfl, by kernel_rfl, rfl, by decide, ⟨by kernel_rfl, ?_, ?_⟩, ?_⟩⟩
  · refine loops_of (n := 1) (by kernel_rfl) fun i hi => ?_
    match i, hi with
    | 0, _ => exact loop_of (by kernel_rfl) (spec_FramePicture_l0_ok k)
    | n + 1, hi => omega
  · exact no_cuts (by kernel_rfl)
  · rintro lines0
    kernel_rfl
/- 82 loop.example/g01005/impl.widthOf -/
def impl_widthOf (lines0 : List (List UInt8)) : Option Int := (if (decide ((List.length lines0 : Int) = 0)) = true then some 0 else (lines0[0]?).bind fun y_1 => some (List.length y_1 : Int))
def fe_impl_widthOf : FE := ⟨(.sl 9 .str), 1, (.int .i64), fun x => impl_widthOf x⟩
theorem ok_impl_widthOf : FnOK Try.prog 82 (fe_impl_widthOf) := by
  refine closed_ok (tab := []) (l := []) ti_ok ti_ht mix (List.forall_mem_nil _) (List.forall_mem_nil _) ⟨⟨Try.f82, (codeOf Try.f82), [.tmp 2], (LOn Int), by kernel_rfl, by kernel_rfl, by kernel_rfl, by kernel_rfl, rfl, by decide, ⟨by kernel_rfl, ?_, ?_⟩, ?_⟩⟩
  · exact no_loops (by kernel_rfl)
  · exact no_cuts (by kernel_rfl)
  · rintro lines0
    kernel_rfl
/- 115 loop.example/g01005/impl.ValidPicture$1 -/
def impl_ValidPicture_1 (b0 : Int) : Option Bool := (if (decide (b0 < 32)) = true then some true else some (decide (126 < b0)))
def fe_impl_ValidPicture_1 : FE := ⟨(.int .u8), 1, .bool, fun x => impl_ValidPicture_1 x⟩
theorem ok_impl_ValidPicture_1 : FnOK Try.prog 115 (fe_impl_ValidPicture_1) := by
  refine closed_ok (tab := []) (l := []) ti_ok ti_ht mix (List.forall_mem_nil _) (List.forall_mem_nil _) ⟨⟨Try.f115, (codeOf Try.f115), [.tmp 2], (LOn Bool), by kernel_rfl, by kernel_rfl, by kernel_rfl, by kernel_rfl, rfl, by decide, ⟨by kernel_rfl, ?_, ?_⟩, ?_⟩⟩
  · exact no_loops (by kernel_rfl)
  · exact no_cuts (by kernel_rfl)
  · rintro b0
    kernel_rfl
/- 149 slices.IndexFunc[[]byte,byte] -/
def slices_IndexFunc_byte__impl_ValidPicture_1_l0 (k : Nat) : Nat → (List Int) → Unit → Int → Int → (Option Int) → Option Int
  | 0, _, _, _, _, _ => none
  | n + 1, s0, f1, x7, x8, e_0 => (if (decide (x8 < x7)) = true then (if 0 ≤ x8 then (s0[x8.toNat]?).bind fun y_1 => (impl_ValidPicture_1 y_1).bind fun r_2 => (if r_2 = true then some x8 else slices_IndexFunc_byte__impl_ValidPicture_1_l0 k n s0 f1 x7 (w_i64 (x8 + 1)) e_0) else none) else e_0)
def slices_IndexFunc_byte__impl_ValidPicture_1 (k : Nat) (s0 : List Int) (f1 : Unit) : Option Int := slices_IndexFunc_byte__impl_ValidPicture_1_l0 k k s0 f1 (List.length s0 : Int) 0 (some (-1))
def slices_IndexFunc_byte__impl_ValidPicture_1_l0_h : Head := ⟨[(0, (.val (.sl 5 (.int .u8)))), (1, (.val (.fn 115 .un))), (7, (.val (.int .i64))), (8, (.val (.int .i64)))], [], []⟩
def slices_IndexFunc_byte__impl_ValidPicture_1_l0_x0 : Head := ⟨[], [], []⟩
def slices_IndexFunc_byte__impl_ValidPicture_1_l0_F (k n : Nat) (x : slices_IndexFunc_byte__impl_ValidPicture_1_l0_h.T) (kx : Nat → St → Option Int) : Option Int := slices_IndexFunc_byte__impl_ValidPicture_1_l0 k n x.1.1 x.1.2.1 x.1.2.2.1 x.1.2.2.2.1 (kx 0 (slices_IndexFunc_byte__impl_ValidPicture_1_l0_x0.fill ((), (), ())))
def slices_IndexFunc_byte__impl_ValidPicture_1_O (k : Nat) : Oracles Int := ⟨fun n => bif Nat.beq n 2 then some (fun σ kx => slices_IndexFunc_byte__impl_ValidPicture_1_l0_h.get σ fun x => slices_IndexFunc_byte__impl_ValidPicture_1_l0_F k k x kx) else none, fun _ => none⟩
def fe_slices_IndexFunc_byte__impl_ValidPicture_1 (k : Nat) : FE := ⟨(.pr (.sl 5 (.int .u8)) (.fn 115 .un)), 1, (.int .i64), fun x => slices_IndexFunc_byte__impl_ValidPicture_1 k x.1 x.2⟩
theorem slices_IndexFunc_byte__impl_ValidPicture_1_l0_ok (k : Nat) : LoopOK (mkEnv ti [(115, fe_impl_ValidPicture_1)] (lk []) pins0 pinB0) (slices_IndexFunc_byte__impl_ValidPicture_1_O k) (rdC (mkEnv ti [(115, fe_impl_ValidPicture_1)] (lk []) pins0 pinB0) [.tmp 4] (.int .i64)) ((loopsOf (codeOf Try.f149)).getD 0 .skip) (fun σ kx => slices_IndexFunc_byte__impl_ValidPicture_1_l0_h.get σ fun x => slices_IndexFunc_byte__impl_ValidPicture_1_l0_F k k x kx) := by
  refine ⟨slices_IndexFunc_byte__impl_ValidPicture_1_l0_h, [(0, slices_IndexFunc_byte__impl_ValidPicture_1_l0_x0)], fun n x kx => slices_IndexFunc_byte__impl_ValidPicture_1_l0_F k n x kx, k, by kernel_rfl, by kernel_rfl, fun x kx => by kernel_rfl, ?_, fun σ kx => rfl⟩
  rintro n ⟨⟨s0, f1, x7, x8, ⟨⟩⟩, ⟨⟩, ⟨⟩⟩ kx
  kernel_rfl
theorem ok_slices_IndexFunc_byte__impl_ValidPicture_1 (k : Nat) : FnOK Try.prog 149 (fe_slices_IndexFunc_byte__impl_ValidPicture_1 k) := by
  refine closed_ok (tab := [(115, fe_impl_ValidPicture_1)]) (l := []) ti_ok ti_ht mix (List.forall_mem_cons.2 ⟨ok_impl_ValidPicture_1, (List.forall_mem_nil _)⟩) (List.forall_mem_nil _) ⟨⟨Try.f149, (codeOf Try.f149), [.tmp 4], (slices_IndexFunc_byte__impl_ValidPicture_1_O k), by kernel_rfl, by kernel_rfl, by kernel_rfl, by kernel_rfl, rfl, by decide, ⟨by kernel_rfl, ?_, ?_⟩, ?_⟩⟩
  · refine loops_of (n := 1) (by kernel_rfl) fun i hi => ?_
    match i, hi with
    | 0, _ => exact loop_of (by kernel_rfl) (slices_IndexFunc_byte__impl_ValidPicture_1_l0_ok k)
    | n + 1, hi => omega
  · exact no_cuts (by kernel_rfl)
  · rintro ⟨s0, f1⟩
    kernel_rfl
/- 114 slices.ContainsFunc[[]byte,byte] -/
def slices_ContainsFunc_byte__impl_ValidPicture_1 (k : Nat) (s0 : List Int) (f1 : Unit) : Option Bool := (slices_IndexFunc_byte__impl_ValidPicture_1 k s0 f1).bind fun r_1 => some (decide (0 ≤ r_1))
def fe_slices_ContainsFunc_byte__impl_ValidPicture_1 (k : Nat) : FE := ⟨(.pr (.sl 5 (.int .u8)) (.fn 115 .un)), 1, .bool, fun x => slices_ContainsFunc_byte__impl_ValidPicture_1 k x.1 x.2⟩
theorem ok_slices_ContainsFunc_byte__impl_ValidPicture_1 (k : Nat) : FnOK Try.prog 114 (fe_slices_ContainsFunc_byte__impl_ValidPicture_1 k) := by
  refine closed_ok (tab := [(149, fe_slices_IndexFunc_byte__impl_ValidPicture_1 k)]) (l := []) ti_ok ti_ht mix (List.forall_mem_cons.2 ⟨ok_slices_IndexFunc_byte__impl_ValidPicture_1 k, (List.forall_mem_nil _)⟩) (List.forall_mem_nil _) ⟨⟨Try.f114, (codeOf Try.f114), [.tmp 4], (LOn Bool), by kernel_rfl, by kernel_rfl, by kernel_rfl, by kernel_rfl, rfl, by decide, ⟨by kernel_rfl, ?_, ?_⟩, ?_⟩⟩
  · exact no_loops (by kernel_rfl)
  · exact no_cuts (by kernel_rfl)
  · rintro ⟨s0, f1⟩
    kernel_rfl
/- 80 loop.example/g01005/impl.ValidPicture -/
def impl_ValidPicture_l0 (k : Nat) : Nat → (List (List UInt8)) → (List (List UInt8)) → Int → Int → ((List (List UInt8)) → Option Bool) → Option Bool
  | 0, _, _, _, _, _ => none
  | n + 1, lines0, x5, x6, x7, e_0 => (if (decide (x7 < x6)) = true then (if 0 ≤ x7 then (x5[x7.toNat]?).bind fun y_1 => (impl_widthOf lines0).bind fun r_2 => (if (!(decide ((List.length y_1 : Int) = r_2))) = true then some false else (if y_1.length ≤ LIM then (slices_ContainsFunc_byte__impl_ValidPicture_1 k (of_S y_1) ()).bind fun r_3 => (if r_3 = true then some false else impl_ValidPicture_l0 k n lines0 x5 x6 (w_i64 (x7 + 1)) e_0) else none)) else none) else e_0 lines0)
def impl_ValidPicture (k : Nat) (lines0 : List (List UInt8)) : Option Bool := impl_ValidPicture_l0 k k lines0 lines0 (List.length lines0 : Int) 0 (fun lines_4 => (if (decide ((List.length lines_4 : Int) ≤ 60)) = true then (impl_widthOf lines_4).bind fun r_5 => some (decide (r_5 ≤ 80)) else some false))
def impl_ValidPicture_l0_h : Head := ⟨[(0, (.val (.sl 9 .str))), (5, (.val (.sl 9 .str))), (6, (.val (.int .i64))), (7, (.val (.int .i64)))], [], []⟩
def impl_ValidPicture_l0_x0 : Head := ⟨[(0, (.val (.sl 9 .str)))], [], []⟩
def impl_ValidPicture_l0_F (k n : Nat) (x : impl_ValidPicture_l0_h.T) (kx : Nat → St → Option Bool) : Option Bool := impl_ValidPicture_l0 k n x.1.1 x.1.2.1 x.1.2.2.1 x.1.2.2.2.1 (fun (lines0 : List (List UInt8)) => kx 0 (impl_ValidPicture_l0_x0.fill ((lines0, ()), (), ())))
def impl_ValidPicture_O (k : Nat) : Oracles Bool := ⟨fun n => bif Nat.beq n 2 then some (fun σ kx => impl_ValidPicture_l0_h.get σ fun x => impl_ValidPicture_l0_F k k x kx) else none, fun _ => none⟩
def fe_impl_ValidPicture (k : Nat) : FE := ⟨(.sl 9 .str), 1, .bool, fun x => impl_ValidPicture k x⟩
theorem impl_ValidPicture_l0_ok (k : Nat) : LoopOK (mkEnv ti [(82, fe_impl_widthOf), (114, fe_slices_ContainsFunc_byte__impl_ValidPicture_1 k)] (lk []) pins0 pinB0) (impl_ValidPicture_O k) (rdC (mkEnv ti [(82, fe_impl_widthOf), (114, fe_slices_ContainsFunc_byte__impl_ValidPicture_1 k)] (lk []) pins0 pinB0) [.tmp 2] .bool) ((loopsOf (codeOf Try.f80)).getD 0 .skip) (fun σ kx => impl_ValidPicture_l0_h.get σ fun x => impl_ValidPicture_l0_F k k x kx) := by
  refine ⟨impl_ValidPicture_l0_h, [(0, impl_ValidPicture_l0_x0)], fun n x kx => impl_ValidPicture_l0_F k n x kx, k, by kernel_rfl, by kernel_rfl, fun x kx => by kernel_rfl, ?_, fun σ kx => rfl⟩
  rintro n ⟨⟨lines0, x5, x6, x7, ⟨⟩⟩, ⟨⟩, ⟨⟩⟩ kx
  kernel_rfl
theorem ok_impl_ValidPicture (k : Nat) : FnOK Try.prog 80 (fe_impl_ValidPicture k) := by
  refine closed_ok (tab := [(82, fe_impl_widthOf), (114, fe_slices_ContainsFunc_byte__impl_ValidPicture_1 k)]) (l := []) ti_ok ti_ht mix (List.forall_mem_cons.2 ⟨ok_impl_widthOf, (List.forall_mem_cons.2 ⟨ok_slices_ContainsFunc_byte__impl_ValidPicture_1 k, (List.forall_mem_nil _)⟩)⟩) (List.forall_mem_nil _) ⟨⟨Try.f80, (codeOf Try.f80), [.tmp 2], (impl_ValidPicture_O k), by kernel_rfl, by kernel_rfl, by kernel_rfl, by kernel_rfl, rfl, by decide, ⟨by kernel_rfl, ?_, ?_⟩, ?_⟩⟩
  · refine loops_of (n := 1) (by kernel_rfl) fun i hi => ?_
    match i, hi with
    | 0, _ => exact loop_of (by kernel_rfl) (impl_ValidPicture_l0_ok k)
    | n + 1, hi => omega
  · exact no_cuts (by kernel_rfl)
  · rintro lines0
    kernel_rfl
/- 81 strings.Repeat (off the shelf) -/
def strings_Repeat (s : List UInt8) (c : Int) : Option (List UInt8) := if 0 ≤ c ∧ c ≤ 9223372036854775807 ∧ List.length s * c.toNat ≤ 140737488355328 then some (Lib.repeatL s c.toNat) else none
abbrev fe_strings_Repeat : FE := fe_repeat
theorem ok_strings_Repeat : FnOK Try.prog 81 fe_strings_Repeat := ok_repeat (fn := Try.f81) (cd := codeOf Try.f81) (by kernel_rfl) (by kernel_rfl) (by kernel_rfl) (fun s c w h1 h2 => Go.Proofs.Try.strings_Repeat s c w h1 h2)
/- 83 loop.example/g01005/impl.pictured -/
def impl_pictured_l0 (k : Nat) : Nat → (List (List UInt8)) → Int → (List (List UInt8)) → Int → Int → ((List (List UInt8)) → Int → Option (List (List UInt8) × Int)) → Option (List (List UInt8) × Int)
  | 0, _, _, _, _, _, _ => none
  | n + 1, lines0, width4, x10, x11, x12, e_0 => (if (decide (x12 < x11)) = true then (if 0 ≤ x12 then (x10[x12.toNat]?).bind fun y_1 => impl_pictured_l0 k n lines0 (if width4 < (List.length y_1 : Int) then (List.length y_1 : Int) else width4) x10 x11 (w_i64 (x12 + 1)) e_0 else none) else e_0 lines0 width4)
def impl_pictured_l1 (k : Nat) : Nat → Int → (List (List UInt8)) → Int → Int → (List (List UInt8)) → (Int → (List (List UInt8)) → Option (List (List UInt8) × Int)) → Option (List (List UInt8) × Int)
  | 0, _, _, _, _, _, _ => none
  | n + 1, width4, x21, x22, x23, q_4, e_2 => (if (decide (x23 < x22)) = true then (if 0 ≤ x23 then (x21[x23.toNat]?).bind fun y_5 => (strings_Repeat [32] (w_i64 (width4 - (List.length y_5 : Int)))).bind fun r_6 => (if y_5.length + r_6.length ≤ 9223372036854775807 then (if (q_4.length + [(y_5 ++ r_6)].length) * 16 ≤ LIM then impl_pictured_l1 k n width4 x21 x22 (w_i64 (x23 + 1)) (q_4 ++ [(y_5 ++ r_6)]) e_2 else none) else none) else none) else e_2 width4 q_4)
def impl_pictured (k : Nat) (lines0 : List (List UInt8)) : Option (List (List UInt8) × Int) := impl_pictured_l0 k k lines0 0 lines0 (List.length lines0 : Int) 0 (fun lines_2 width_3 => impl_pictured_l1 k k width_3 lines_2 (List.length lines_2 : Int) 0 [] (fun width_7 q_8 => (if (decide (60 < (List.length q_8 : Int))) = true then some ([], 5) else (if (decide (80 < width_7)) = true then some ([], 5) else some (q_8, 0)))))
def impl_pictured_l0_h : Head := ⟨[(0, (.val (.sl 9 .str))), (4, (.val (.int .i64))), (10, (.val (.sl 9 .str))), (11, (.val (.int .i64))), (12, (.val (.int .i64)))], [], []⟩
def impl_pictured_l0_x0 : Head := ⟨[(0, (.val (.sl 9 .str))), (4, (.val (.int .i64)))], [], []⟩
def impl_pictured_l0_F (k n : Nat) (x : impl_pictured_l0_h.T) (kx : Nat → St → Option (List (List UInt8) × Int)) : Option (List (List UInt8) × Int) := impl_pictured_l0 k n x.1.1 x.1.2.1 x.1.2.2.1 x.1.2.2.2.1 x.1.2.2.2.2.1 (fun (lines0 : List (List UInt8)) (width4 : Int) => kx 0 (impl_pictured_l0_x0.fill ((lines0, width4, ()), (), ())))
def impl_pictured_l1_h : Head := ⟨[(4, (.val (.int .i64))), (7, (.ref 64000000 [])), (21, (.val (.sl 9 .str))), (22, (.val (.int .i64))), (23, (.val (.int .i64)))], [(64000000, 9, .str, false)], []⟩
def impl_pictured_l1_x2 : Head := ⟨[(4, (.val (.int .i64))), (7, (.ref 64000000 []))], [(64000000, 9, .str, false)], []⟩
def impl_pictured_l1_F (k n : Nat) (x : impl_pictured_l1_h.T) (kx : Nat → St → Option (List (List UInt8) × Int)) : Option (List (List UInt8) × Int) := impl_pictured_l1 k n x.1.1 x.1.2.2.1 x.1.2.2.2.1 x.1.2.2.2.2.1 x.2.1.1 (fun (width4 : Int) (q_7 : List (List UInt8)) => kx 2 (impl_pictured_l1_x2.fill ((width4, (), ()), (q_7, ()), ())))
def impl_pictured_O (k : Nat) : Oracles (List (List UInt8) × Int) := ⟨fun n => bif Nat.beq n 3 then some (fun σ kx => impl_pictured_l0_h.get σ fun x => impl_pictured_l0_F k k x kx) else bif Nat.beq n 9 then some (fun σ kx => impl_pictured_l1_h.get σ fun x => impl_pictured_l1_F k k x kx) else none, fun _ => none⟩
def fe_impl_pictured (k : Nat) : FE := ⟨(.sl 9 .str), 2, (.pr (.sl 9 .str) (.int .i64)), fun x => impl_pictured k x⟩
theorem impl_pictured_l0_ok (k : Nat) : LoopOK (mkEnv ti [(81, fe_strings_Repeat)] (lk []) pins0 pinB0) (impl_pictured_O k) (rdC (mkEnv ti [(81, fe_strings_Repeat)] (lk []) pins0 pinB0) [.tmp 2, .tmp 3] (.pr (.sl 9 .str) (.int .i64))) ((loopsOf (codeOf Try.f83)).getD 0 .skip) (fun σ kx => impl_pictured_l0_h.get σ fun x => impl_pictured_l0_F k k x kx) := by
  refine ⟨impl_pictured_l0_h, [(0, impl_pictured_l0_x0)], fun n x kx => impl_pictured_l0_F k n x kx, k, by kernel_rfl, by kernel_rfl, fun x kx => by kernel_rfl, ?_, fun σ kx => rfl⟩
  rintro n ⟨⟨lines0, width4, x10, x11, x12, ⟨⟩⟩, ⟨⟩, ⟨⟩⟩ kx
  kernel_rfl
theorem impl_pictured_l1_ok (k : Nat) : LoopOK (mkEnv ti [(81, fe_strings_Repeat)] (lk []) pins0 pinB0) (impl_pictured_O k) (rdC (mkEnv ti [(81, fe_strings_Repeat)] (lk []) pins0 pinB0) [.tmp 2, .tmp 3] (.pr (.sl 9 .str) (.int .i64))) ((loopsOf (codeOf Try.f83)).getD 1 .skip) (fun σ kx => impl_pictured_l1_h.get σ fun x => impl_pictured_l1_F k k x kx) := by
  refine ⟨impl_pictured_l1_h, [(2, impl_pictured_l1_x2)], fun n x kx => impl_pictured_l1_F k n x kx, k, by kernel_rfl, by kernel_rfl, fun x kx => by kernel_rfl, ?_, fun σ kx => rfl⟩
  rintro n ⟨⟨width4, ⟨⟩, x21, x22, x23, ⟨⟩⟩, ⟨q_4, ⟨⟩⟩, ⟨⟩⟩ kx
  kernel_rfl
theorem ok_impl_pictured (k : Nat) : FnOK Try.prog 83 (fe_impl_pictured k) := by
  refine closed_ok (tab := [(81, fe_strings_Repeat)]) (l := []) ti_ok ti_ht mix (List.forall_mem_cons.2 ⟨ok_strings_Repeat, (List.forall_mem_nil _)⟩) (List.forall_mem_nil _) ⟨⟨Try.f83, (codeOf Try.f83), [.tmp 2, .tmp 3], (impl_pictured_O k), by kernel_rfl, by kernel_rfl, by kernel_rfl, by kernel_rfl, rfl, by decide, ⟨by kernel_rfl, ?_, ?_⟩, ?_⟩⟩
  · refine loops_of (n := 2) (by kernel_rfl) fun i hi => ?_
    match i, hi with
    | 0, _ => exact loop_of (by kernel_rfl) (impl_pictured_l0_ok k)
    | 1, _ => exact loop_of (by kernel_rfl) (impl_pictured_l1_ok k)
    | n + 2, hi => omega
  · exact no_cuts (by kernel_rfl)
  · rintro lines0
    kernel_rfl
/- 31 loop.example/g01005/impl.FramePicture -/
def impl_FramePicture_l0 (k : Nat) : Nat → (List UInt8) → (List (List UInt8)) → Int → Int → (List (List UInt8)) → ((List UInt8) → (List (List UInt8)) → Option (List (List UInt8) × Int)) → Option (List (List UInt8) × Int)
  | 0, _, _, _, _, _, _ => none
  | n + 1, edge4, x18, x19, x20, q_4, e_0 => (if (decide (x20 < x19)) = true then (if 0 ≤ x20 then (x18[x20.toNat]?).bind fun y_5 => (if [124].length + y_5.length ≤ 9223372036854775807 then (if ([124] ++ y_5).length + [124].length ≤ 9223372036854775807 then (if (q_4.length + [(([124] ++ y_5) ++ [124])].length) * 16 ≤ LIM then impl_FramePicture_l0 k n edge4 x18 x19 (w_i64 (x20 + 1)) (q_4 ++ [(([124] ++ y_5) ++ [124])]) e_0 else none) else none) else none) else none) else e_0 edge4 q_4)
def impl_FramePicture (k : Nat) (lines0 : List (List UInt8)) : Option (List (List UInt8) × Int) := (impl_ValidPicture k lines0).bind fun r_1 => (if (!r_1) = true then some ([], 1) else (impl_widthOf lines0).bind fun r_2 => (strings_Repeat [45] r_2).bind fun r_3 => (if [43].length + r_3.length ≤ 9223372036854775807 then (if ([43] ++ r_3).length + [43].length ≤ 9223372036854775807 then impl_FramePicture_l0 k k (([43] ++ r_3) ++ [43]) lines0 (List.length lines0 : Int) 0 [(([43] ++ r_3) ++ [43])] (fun edge_6 q_7 => (if (q_7.length + [edge_6].length) * 16 ≤ LIM then (impl_pictured k (q_7 ++ [edge_6])).bind fun r_8 => some (r_8.1, r_8.2) else none)) else none) else none))
def impl_FramePicture_l0_h : Head := ⟨[(4, (.val .str)), (5, (.ref 64000000 [])), (18, (.val (.sl 9 .str))), (19, (.val (.int .i64))), (20, (.val (.int .i64)))], [(64000000, 9, .str, false)], []⟩
def impl_FramePicture_l0_x0 : Head := ⟨[(4, (.val .str)), (5, (.ref 64000000 []))], [(64000000, 9, .str, false)], []⟩
def impl_FramePicture_l0_F (k n : Nat) (x : impl_FramePicture_l0_h.T) (kx : Nat → St → Option (List (List UInt8) × Int)) : Option (List (List UInt8) × Int) := impl_FramePicture_l0 k n x.1.1 x.1.2.2.1 x.1.2.2.2.1 x.1.2.2.2.2.1 x.2.1.1 (fun (edge4 : List UInt8) (q_6 : List (List UInt8)) => kx 0 (impl_FramePicture_l0_x0.fill ((edge4, (), ()), (q_6, ()), ())))
def impl_FramePicture_O (k : Nat) : Oracles (List (List UInt8) × Int) := ⟨fun n => bif Nat.beq n 6 then some (fun σ kx => impl_FramePicture_l0_h.get σ fun x => impl_FramePicture_l0_F k k x kx) else none, fun _ => none⟩
def fe_impl_FramePicture (k : Nat) : FE := ⟨(.sl 9 .str), 2, (.pr (.sl 9 .str) (.int .i64)), fun x => impl_FramePicture k x⟩
theorem impl_FramePicture_l0_ok (k : Nat) : LoopOK (mkEnv ti [(80, fe_impl_ValidPicture k), (82, fe_impl_widthOf), (81, fe_strings_Repeat), (83, fe_impl_pictured k)] (lk []) pins0 pinB0) (impl_FramePicture_O k) (rdC (mkEnv ti [(80, fe_impl_ValidPicture k), (82, fe_impl_widthOf), (81, fe_strings_Repeat), (83, fe_impl_pictured k)] (lk []) pins0 pinB0) [.tmp 2, .tmp 3] (.pr (.sl 9 .str) (.int .i64))) ((loopsOf (codeOf Try.f31)).getD 0 .skip) (fun σ kx => impl_FramePicture_l0_h.get σ fun x => impl_FramePicture_l0_F k k x kx) := by
  refine ⟨impl_FramePicture_l0_h, [(0, impl_FramePicture_l0_x0)], fun n x kx => impl_FramePicture_l0_F k n x kx, k, by kernel_rfl, by kernel_rfl, fun x kx => by kernel_rfl, ?_, fun σ kx => rfl⟩
  rintro n ⟨⟨edge4, ⟨⟩, x18, x19, x20, ⟨⟩⟩, ⟨q_4, ⟨⟩⟩, ⟨⟩⟩ kx
  kernel_rfl
theorem ok_impl_FramePicture (k : Nat) : FnOK Try.prog 31 (fe_impl_FramePicture k) := by
  refine closed_ok (tab := [(80, fe_impl_ValidPicture k), (82, fe_impl_widthOf), (81, fe_strings_Repeat), (83, fe_impl_pictured k)]) (l := []) ti_ok ti_ht mix (List.forall_mem_cons.2 ⟨ok_impl_ValidPicture k, (List.forall_mem_cons.2 ⟨ok_impl_widthOf, (List.forall_mem_cons.2 ⟨ok_strings_Repeat, (List.forall_mem_cons.2 ⟨ok_impl_pictured k, (List.forall_mem_nil _)⟩)⟩)⟩)⟩) (List.forall_mem_nil _) ⟨⟨Try.f31, (codeOf Try.f31), [.tmp 2, .tmp 3], (impl_FramePicture_O k), by kernel_rfl, by kernel_rfl, by kernel_rfl, by kernel_rfl, rfl, by decide, ⟨by kernel_rfl, ?_, ?_⟩, ?_⟩⟩
  · refine loops_of (n := 1) (by kernel_rfl) fun i hi => ?_
    match i, hi with
    | 0, _ => exact loop_of (by kernel_rfl) (impl_FramePicture_l0_ok k)
    | n + 1, hi => omega
  · exact no_cuts (by kernel_rfl)
  · rintro lines0
    kernel_rfl
/- 5 loop.example/g01005/laws.FnExactFramePicture -/
def laws_FnExactFramePicture (k : Nat) (aLines0 : List (List UInt8)) : Option Bool := (laws_szStringS k aLines0 1048576).bind fun r_1 => (if (decide (r_1 < 0)) = true then some true else (laws_toStringS k aLines0).bind fun r_2 => (spec_FramePicture k r_2).bind fun r_3 => (laws_toStringS k aLines0).bind fun r_4 => (impl_FramePicture k r_4).bind fun r_5 => (laws_eqStringS k r_5.1 r_3.1).bind fun r_6 => (if (!r_6) = true then some false else (if (!(decide (r_5.2 = r_3.2))) = true then some false else (laws_toStringS k aLines0).bind fun r_7 => (laws_eqStringS k r_4 r_7).bind fun r_8 => (if (!r_8) = true then some false else (laws_markStringS_o k 1 r_4).bind fun y_9 => (if (decide (y_9.1.1 < 0)) = true then some false else (laws_eqStringS k r_5.1 r_3.1).bind fun r_10 => (if (!r_10) = true then some false else (if (!(decide (r_5.2 = r_3.2))) = true then some false else (laws_markStringS_o k 1 r_5.1).bind fun y_11 => (laws_heldStringS k y_11.2.1.1 1).bind fun r_12 => (if (decide (r_12 < 0)) = true then some false else (if (!(decide (r_12 = y_11.1.1))) = true then some false else (laws_toStringS k aLines0).bind fun r_13 => (impl_FramePicture k r_13).bind fun r_14 => (laws_eqStringS k r_14.1 r_3.1).bind fun r_15 => (if (!r_15) = true then some false else (if (!(decide (r_14.2 = r_3.2))) = true then some false else (laws_heldStringS k y_11.2.1.1 1).bind fun r_16 => (if (decide (r_16 < 0)) = true then some false else (if (!(decide (r_16 = y_11.1.1))) = true then some false else some true)))))))))))))
def fe_laws_FnExactFramePicture (k : Nat) : FE := ⟨(.sl 9 .str), 1, .bool, fun x => laws_FnExactFramePicture k x⟩
theorem ok_laws_FnExactFramePicture (k : Nat) : FnOK Try.prog 5 (fe_laws_FnExactFramePicture k) := by
  refine closed_ok (tab := [(28, fe_laws_szStringS k), (30, fe_laws_toStringS k), (29, fe_spec_FramePicture k), (31, fe_impl_FramePicture k), (32, fe_laws_eqStringS k), (34, fe_laws_heldStringS k)]) (l := [(48, 33, oc_laws_markStringS_o k), (64, 33, oc_laws_markStringS_o k)]) ti_ok ti_ht mix (List.forall_mem_cons.2 ⟨ok_laws_szStringS k, (List.forall_mem_cons.2 ⟨ok_laws_toStringS k, (List.forall_mem_cons.2 ⟨ok_spec_FramePicture k, (List.forall_mem_cons.2 ⟨ok_impl_FramePicture k, (List.forall_mem_cons.2 ⟨ok_laws_eqStringS k, (List.forall_mem_cons.2 ⟨ok_laws_heldStringS k, (List.forall_mem_nil _)⟩)⟩)⟩)⟩)⟩)⟩) (List.forall_mem_cons.2 ⟨ok_laws_markStringS_o k, (List.forall_mem_cons.2 ⟨ok_laws_markStringS_o k, (List.forall_mem_nil _)⟩)⟩) ⟨⟨Try.f5, (codeOf Try.f5), [.tmp 2], (LOn Bool), by kernel_rfl, by kernel_rfl, by kernel_rfl, by kernel_rfl, rfl, by decide, ⟨by kernel_rfl, ?_, ?_⟩, ?_⟩⟩
  · exact no_loops (by kernel_rfl)
  · exact no_cuts (by kernel_rfl)
  · rintro aLines0
    kernel_rfl
/- 87 loop.example/g01005/spec.l30Line -/
def spec_l30Line (k : Nat) (lines0 : List (List UInt8)) (i1 : Int) : Option (List UInt8) := (if (decide (i1 < (List.length lines0 : Int))) = true then (if 0 ≤ i1 then (lines0[i1.toNat]?).bind fun y_1 => some y_1 else none) else (if (decide ((List.length lines0 : Int) = 0)) = true then some [] else (lines0[0]?).bind fun y_2 => (spec_l30Times k [32] (List.length y_2 : Int)).bind fun r_3 => some r_3))
def fe_spec_l30Line (k : Nat) : FE := ⟨(.pr (.sl 9 .str) (.int .i64)), 1, .str, fun x => spec_l30Line k x.1 x.2⟩
theorem ok_spec_l30Line (k : Nat) : FnOK Try.prog 87 (fe_spec_l30Line k) := by
  refine closed_ok (tab := [(78, fe_spec_l30Times k)]) (l := []) ti_ok ti_ht mix (List.forall_mem_cons.2 ⟨ok_spec_l30Times k, (List.forall_mem_nil _)⟩) (List.forall_mem_nil _) ⟨⟨Try.f87, (codeOf Try.f87), [.tmp 4], (LOn (List UInt8)), by kernel_rfl, by kernel_rfl, by kernel_rfl, by kernel_rfl, rfl, by decide, ⟨by kernel_rfl, ?_, ?_⟩, ?_⟩⟩
  · exact no_loops (by kernel_rfl)
  · exact no_cuts (by kernel_rfl)
  · rintro ⟨lines0, i1⟩
    kernel_rfl
/- 37 loop.example/g01005/spec.BesidePictures -/
def spec_BesidePictures_l0 (k : Nat) : Nat → (List (List UInt8)) → (List (List UInt8)) → Int → Int → (List (List UInt8)) → ((List (List UInt8)) → Option (List (List UInt8) × Int)) → Option (List (List UInt8) × Int)
  | 0, _, _, _, _, _, _ => none
  | n + 1, a0, b1, gap2, i9, q_4, e_0 => (if (decide (i9 < (List.length a0 : Int))) = true then (spec_l30Line k a0 i9).bind fun r_5 => (spec_l30Times k [32] gap2).bind fun r_6 => (if r_5.length + r_6.length ≤ 9223372036854775807 then (spec_l30Line k b1 i9).bind fun r_7 => (if (r_5 ++ r_6).length + r_7.length ≤ 9223372036854775807 then (if (q_4.length + [((r_5 ++ r_6) ++ r_7)].length) * 16 ≤ LIM then spec_BesidePictures_l0 k n a0 b1 gap2 (w_i64 (i9 + 1)) (q_4 ++ [((r_5 ++ r_6) ++ r_7)]) e_0 else none) else none) else none) else (if (decide (i9 < (List.length b1 : Int))) = true then (spec_l30Line k a0 i9).bind fun r_8 => (spec_l30Times k [32] gap2).bind fun r_9 => (if r_8.length + r_9.length ≤ 9223372036854775807 then (spec_l30Line k b1 i9).bind fun r_10 => (if (r_8 ++ r_9).length + r_10.length ≤ 9223372036854775807 then (if (q_4.length + [((r_8 ++ r_9) ++ r_10)].length) * 16 ≤ LIM then spec_BesidePictures_l0 k n a0 b1 gap2 (w_i64 (i9 + 1)) (q_4 ++ [((r_8 ++ r_9) ++ r_10)]) e_0 else none) else none) else none) else e_0 q_4))
def spec_BesidePictures (k : Nat) (a0 : List (List UInt8)) (b1 : List (List UInt8)) (gap2 : Int) : Option (List (List UInt8) × Int) := (spec_l30Ok k a0).bind fun r_1 => (if (!r_1) = true then some ([], 1) else (spec_l30Ok k b1).bind fun r_2 => (if (!r_2) = true then some ([], 1) else (spec_l00In gap2 0 80).bind fun r_3 => (if (!r_3) = true then some ([], 2) else spec_BesidePictures_l0 k k a0 b1 gap2 0 [] (fun q_11 => (spec_l30Done_g k q_11).bind fun y_12 => some (y_12.2.1.1, y_12.1.1.2.1)))))
def spec_BesidePictures_l0_h : Head := ⟨[(0, (.val (.sl 9 .str))), (1, (.val (.sl 9 .str))), (2, (.val (.int .i64))), (8, (.ref 64000000 [])), (9, (.val (.int .i64)))], [(64000000, 9, .str, false)], []⟩
def spec_BesidePictures_l0_x0 : Head := ⟨[(8, (.ref 64000000 []))], [(64000000, 9, .str, false)], []⟩
def spec_BesidePictures_l0_F (k n : Nat) (x : spec_BesidePictures_l0_h.T) (kx : Nat → St → Option (List (List UInt8) × Int)) : Option (List (List UInt8) × Int) := spec_BesidePictures_l0 k n x.1.1 x.1.2.1 x.1.2.2.1 x.1.2.2.2.2.1 x.2.1.1 (fun (q_11 : List (List UInt8)) => kx 0 (spec_BesidePictures_l0_x0.fill (((), ()), (q_11, ()), ())))
def spec_BesidePictures_O (k : Nat) : Oracles (List (List UInt8) × Int) := ⟨fun n => bif Nat.beq n 7 then some (fun σ kx => spec_BesidePictures_l0_h.get σ fun x => spec_BesidePictures_l0_F k k x kx) else none, fun _ => none⟩
def fe_spec_BesidePictures (k : Nat) : FE := ⟨(.pr (.sl 9 .str) (.pr (.sl 9 .str) (.int .i64))), 2, (.pr (.sl 9 .str) (.int .i64)), fun x => spec_BesidePictures k x.1 x.2.1 x.2.2⟩
theorem spec_BesidePictures_l0_ok (k : Nat) : LoopOK (mkEnv ti [(77, fe_spec_l30Ok k), (86, fe_spec_l00In), (87, fe_spec_l30Line k), (78, fe_spec_l30Times k)] (lk [(48, 79, oc_spec_l30Done_g k)]) pins0 pinB0) (spec_BesidePictures_O k) (rdC (mkEnv ti [(77, fe_spec_l30Ok k), (86, fe_spec_l00In), (87, fe_spec_l30Line k), (78, fe_spec_l30Times k)] (lk [(48, 79, oc_spec_l30Done_g k)]) pins0 pinB0) [.tmp 6, .tmp 7] (.pr (.sl 9 .str) (.int .i64))) ((loopsOf (codeOf Try.f37)).getD 0 .skip) (fun σ kx => spec_BesidePictures_l0_h.get σ fun x => spec_BesidePictures_l0_F k k x kx) := by
  refine ⟨spec_BesidePictures_l0_h, [(0, spec_BesidePictures_l0_x0)], fun n x kx => spec_BesidePictures_l0_F k n x kx, k, by kernel_rfl, by kernel_rfl, fun x kx => by kernel_rfl, ?_, fun σ kx => rfl⟩
  rintro n ⟨⟨a0, b1, gap2, ⟨⟩, i9, ⟨⟩⟩, ⟨q_4, ⟨⟩⟩, ⟨⟩⟩ kx
  kernel_rfl
theorem ok_spec_BesidePictures (k : Nat) : FnOK Try.prog 37 (fe_spec_BesidePictures k) := by
  refine closed_ok (tab := [(77, fe_spec_l30Ok k), (86, fe_spec_l00In), (87, fe_spec_l30Line k), (78, fe_spec_l30Times k)]) (l := [(48, 79, oc_spec_l30Done_g k)]) ti_ok ti_ht mix (List.forall_mem_cons.2 ⟨ok_spec_l30Ok k, (List.forall_mem_cons.2 ⟨ok_spec_l00In, (List.forall_mem_cons.2 ⟨ok_spec_l30Line k, (List.forall_mem_cons.2 ⟨ok_spec_l30Times k, (List.forall_mem_nil _)⟩)⟩)⟩)⟩) (List.forall_mem_cons.2 ⟨ok_spec_l30Done_g k, (List.forall_mem_nil _)⟩) ⟨⟨Try.f37, (codeOf Try.f37), [.tmp 6, .tmp 7], (spec_BesidePictures_O k), by kernel_rfl, by kernel_rfl, by kernel_rfl, by kernel_rfl, rfl, by decide, ⟨by kernel_rfl, ?_, ?_⟩, ?_⟩⟩
  · refine loops_of (n := 1) (by kernel_rfl) fun i hi => ?_
    match i, hi with
    | 0, _ => exact loop_of (by kernel_rfl) (spec_BesidePictures_l0_ok k)
    | n + 1, hi => omega
  · exact no_cuts (by kernel_rfl)
  · rintro ⟨a0, b1, gap2⟩
    kernel_rfl
/- 89 loop.example/g01005/impl.lineOr -/
def impl_lineOr (lines0 : List (List UInt8)) (k1 : Int) : Option (List UInt8) := (if (decide (k1 < (List.length lines0 : Int))) = true then (if 0 ≤ k1 then (lines0[k1.toNat]?).bind fun y_1 => some y_1 else none) else (impl_widthOf lines0).bind fun r_2 => (strings_Repeat [32] r_2).bind fun r_3 => some r_3)
def fe_impl_lineOr : FE := ⟨(.pr (.sl 9 .str) (.int .i64)), 1, .str, fun x => impl_lineOr x.1 x.2⟩
theorem ok_impl_lineOr : FnOK Try.prog 89 (fe_impl_lineOr) := by
  refine closed_ok (tab := [(82, fe_impl_widthOf), (81, fe_strings_Repeat)]) (l := []) ti_ok ti_ht mix (List.forall_mem_cons.2 ⟨ok_impl_widthOf, (List.forall_mem_cons.2 ⟨ok_strings_Repeat, (List.forall_mem_nil _)⟩)⟩) (List.forall_mem_nil _) ⟨⟨Try.f89, (codeOf Try.f89), [.tmp 4], (LOn (List UInt8)), by kernel_rfl, by kernel_rfl, by kernel_rfl, by kernel_rfl, rfl, by decide, ⟨by kernel_rfl, ?_, ?_⟩, ?_⟩⟩
  · exact no_loops (by kernel_rfl)
  · exact no_cuts (by kernel_rfl)
  · rintro ⟨lines0, k1⟩
    kernel_rfl
end
end Go.Proofs.Ytkopnopjbaejjaa.Ev
