/- Functions of the program, as plain ones. No conditions. -/
import Derived.Test.YtkopnopjbaejjaaG3
import Derived.KernelRfl
set_option linter.unusedVariables false
set_option maxRecDepth 100000
namespace Go.Proofs.Ytkopnopjbaejjaa.Ev
open Go.RowKit
/- 31 loop.example/g01005/impl.FramePicture -/
def impl_FramePicture_l0 (k : Nat) : Nat → (List UInt8) → (List (List UInt8)) → Int → Int → (List (List UInt8)) → ((List UInt8) → (List (List UInt8)) → Option (List (List UInt8) × Int)) → Option (List (List UInt8) × Int)
  | 0, _, _, _, _, _, _ => none
  | n + 1, edge4, x18, x19, x20, q_4, e_0 => (if (decide (x20 < x19)) = true then (if 0 ≤ x20 then (x18[x20.toNat]?).bind fun y_5 => (if [124].length + y_5.length ≤ 9223372036854775807 then (if ([124] ++ y_5).length + [124].length ≤ 9223372036854775807 then (if (q_4.length + [(([124] ++ y_5) ++ [124])].length) * 16 ≤ LIM then impl_FramePicture_l0 k n edge4 x18 x19 (w_i64 (x20 + 1)) (q_4 ++ [(([124] ++ y_5) ++ [124])]) e_0 else none) else none) else none) else none) else e_0 edge4 q_4)
def impl_FramePicture (k : Nat) (lines0 : List (List UInt8)) : Option (List (List UInt8) × Int) := (impl_ValidPicture k lines0).bind fun r_1 => (if (!r_1) = true then some ([], 1) else (impl_widthOf lines0).bind fun r_2 => (strings_Repeat [45] r_2).bind fun r_3 => (if [43].length + r_3.length ≤ 9223372036854775807 then (if ([43] ++ r_3).length + [43].length ≤ 9223372036854775807 then impl_FramePicture_l0 k k (([43] ++ r_3) ++ [43]) lines0 (List.length lines0 : Int) 0 [(([43] ++ r_3) ++ [43])] (fun edge_6 q_7 => (if (q_7.length + [edge_6].length) * 16 ≤ LIM then (impl_pictured k (q_7 ++ [edge_6])).bind fun r_8 => some (r_8.1, r_8.2) else none)) else none) else none))
def impl_FramePicture_l0_h : Head := ⟨[(4, (.val .str)), (5, (.ref 64000000 [])), (18, (.val (.sl 9 .str))), (19, (.val (.int .i64))), (20, (.val (.int .i64)))], [(64000000, 9, .str, false)], []⟩
def impl_FramePicture_l0_x0 : Head := ⟨[(4, (.val .str)), (5, (.ref 64000000 []))], [(64000000, 9, .str, false)], []⟩
def impl_FramePicture_l0_F (k n : Nat) (x : impl_FramePicture_l0_h.T) (kx : Nat → St → Option (List (List UInt8) × Int)) : Option (List (List UInt8) × Int) := impl_FramePicture_l0 k n x.1.1 x.1.2.2.1 x.1.2.2.2.1 x.1.2.2.2.2.1 x.2.1.1 (fun (edge4 : List UInt8) (q_6 : List (List UInt8)) => kx 0 (impl_FramePicture_l0_x0.fill ((edge4, (), ()), (q_6, ()), ())))
def impl_FramePicture_O (k : Nat) : Oracles (List (List UInt8) × Int) := ⟨fun n => bif Nat.beq n 6 then some (fun σ kx => impl_FramePicture_l0_h.get σ fun x => impl_FramePicture_l0_F k k x kx) else none, fun _ => none⟩
def fe_impl_FramePicture (k : Nat) : FE := ⟨(.sl 9 .str), 2, (.pr (.sl 9 .str) (.int .i64)), fun x => impl_FramePicture k x⟩
theorem impl_FramePicture_l0_ok (k : Nat) : LoopOK (mkEnv ti [(80, fe_impl_ValidPicture k), (82, fe_impl_widthOf), (81, fe_strings_Repeat), (83, fe_impl_pictured k)] (lk []) pins0 pinB0) (impl_FramePicture_O k) (rdC (mkEnv ti [(80, fe_impl_ValidPicture k), (82, fe_impl_widthOf), (81, fe_strings_Repeat), (83, fe_impl_pictured k)] (lk []) pins0 pinB0) [.tmp 2, .tmp 3] (.pr (.sl 9 .str) (.int .i64))) ((loopsOf (codeOf Try.f31)).getD 0 .skip) (fun σ kx => impl_FramePicture_l0_h.get σ fun x => impl_FramePicture_l0_F k k x kx) := by
  refine ⟨impl_FramePicture_l0_h, [(0, impl_FramePicture_l0_x0)], fun n x kx => impl_FramePicture_l0_F k n x kx, k, by kernel_rfl, by kernel_rfl, fun x kx => by kernel_rfl, ?_, fun σ kx => rfl⟩
  rintro n ⟨⟨edge4, ⟨⟩, x18, x19, x20, ⟨⟩⟩, ⟨q_4, ⟨⟩⟩, ⟨⟩⟩ kx
  kernel_rfl
theorem ok_impl_FramePicture (k : Nat) : FnOK Try.prog 31 (fe_impl_FramePicture k) := by
  refine closed_ok (tab := [(80, fe_impl_ValidPicture k), (82, fe_impl_widthOf), (81, fe_strings_Repeat), (83, fe_impl_pictured k)]) (l := []) ti_ok ti_ht mix (List.forall_mem_cons.2 ⟨ok_impl_ValidPicture k, (List.forall_mem_cons.2 ⟨ok_impl_widthOf, (List.forall_mem_cons.2 ⟨ok_strings_Repeat, (List.forall_mem_cons.2 ⟨ok_impl_pictured k, (List.forall_mem_nil _)⟩)⟩)⟩)⟩) (List.forall_mem_nil _) ⟨⟨Try.f31, (codeOf Try.f31), [.tmp 2, .tmp 3], (impl_FramePicture_O k), by kernel_rfl, by kernel_rfl, by kernel_rfl, by kernel_rfl, rfl, by decide, ⟨by kernel_rfl, ?_, ?_⟩, ?_⟩⟩
  · refine loops_of (n := 1) (by kernel_rfl) fun i hi => ?_
    match i, hi with
    | 0, _ => exact loop_of (by kernel_rfl) (impl_FramePicture_l0_ok k)
    | n + 1, hi => omega
  · exact no_cuts (by kernel_rfl)
  · rintro lines0
    kernel_rfl
/- 5 loop.example/g01005/laws.FnExactFramePicture -/
def laws_FnExactFramePicture (k : Nat) (aLines0 : List (List UInt8)) : Option Bool := (laws_szStringS k aLines0 1048576).bind fun r_1 => (if (decide (r_1 < 0)) = true then some true else (laws_toStringS k aLines0).bind fun r_2 => (spec_FramePicture k r_2).bind fun r_3 => (laws_toStringS k aLines0).bind fun r_4 => (impl_FramePicture k r_4).bind fun r_5 => (laws_eqStringS k r_5.1 r_3.1).bind fun r_6 => (if (!r_6) = true then some false else (if (!(decide (r_5.2 = r_3.2))) = true then some false else (laws_toStringS k aLines0).bind fun r_7 => (laws_eqStringS k r_4 r_7).bind fun r_8 => (if (!r_8) = true then some false else (laws_markStringS_o k 1 r_4).bind fun y_9 => (if (decide (y_9.1.1 < 0)) = true then some false else (laws_eqStringS k r_5.1 r_3.1).bind fun r_10 => (if (!r_10) = true then some false else (if (!(decide (r_5.2 = r_3.2))) = true then some false else (laws_markStringS_o k 1 r_5.1).bind fun y_11 => (laws_heldStringS k y_11.2.1.1 1).bind fun r_12 => (if (decide (r_12 < 0)) = true then some false else (if (!(decide (r_12 = y_11.1.1))) = true then some false else (laws_toStringS k aLines0).bind fun r_13 => (impl_FramePicture k r_13).bind fun r_14 => (laws_eqStringS k r_14.1 r_3.1).bind fun r_15 => (if (!r_15) = true then some false else (if (!(decide (r_14.2 = r_3.2))) = true then some false else (laws_heldStringS k y_11.2.1.1 1).bind fun r_16 => (if (decide (r_16 < 0)) = true then some false else (if (!(decide (r_16 = y_11.1.1))) = true then some false else some true)))))))))))))
def fe_laws_FnExactFramePicture (k : Nat) : FE := ⟨(.sl 9 .str), 1, .bool, fun x => laws_FnExactFramePicture k x⟩
theorem ok_laws_FnExactFramePicture (k : Nat) : FnOK Try.prog 5 (fe_laws_FnExactFramePicture k) := by
  refine closed_ok (tab := [(28, fe_laws_szStringS k), (30, fe_laws_toStringS k), (29, fe_spec_FramePicture k), (31, fe_impl_FramePicture k), (32, fe_laws_eqStringS k), (34, fe_laws_heldStringS k)]) (l := [(48, 33, oc_laws_markStringS_o k), (64, 33, oc_laws_markStringS_o k)]) ti_ok ti_ht mix (List.forall_mem_cons.2 ⟨ok_laws_szStringS k, (List.forall_mem_cons.2 ⟨ok_laws_toStringS k, (List.forall_mem_cons.2 ⟨ok_spec_FramePicture k, (List.forall_mem_cons.2 ⟨ok_impl_FramePicture k, (List.forall_mem_cons.2 ⟨ok_laws_eqStringS k, (List.forall_mem_cons.2 ⟨ok_laws_heldStringS k, (List.forall_mem_nil _)⟩)⟩)⟩)⟩)⟩)⟩) (List.forall_mem_cons.2 ⟨ok_laws_markStringS_o k, (List.forall_mem_cons.2 ⟨ok_laws_markStringS_o k, (List.forall_mem_nil _)⟩)⟩) ⟨⟨Try.f5, (codeOf Try.f5), [.tmp 2], (LOn Bool), by kernel_rfl, by kernel_rfl, by kernel_rfl, by kernel_rfl, rfl, by decide, ⟨by kernel_rfl, ?_, ?_⟩, ?_⟩⟩
  · exact no_loops (by kernel_rfl)
  · exact no_cuts (by kernel_rfl)
  · rintro aLines0
    kernel_rfl
/- 86 loop.example/g01005/spec.l00In -/
def spec_l00In (n0 : Int) (low1 : Int) (high2 : Int) : Option Bool := (if (decide (low1 ≤ n0)) = true then some (decide (n0 ≤ high2)) else some false)
def fe_spec_l00In : FE := ⟨(.pr (.int .i64) (.pr (.int .i64) (.int .i64))), 1, .bool, fun x => spec_l00In x.1 x.2.1 x.2.2⟩
theorem ok_spec_l00In : FnOK Try.prog 86 (fe_spec_l00In) := by
  refine closed_ok (tab := []) (l := []) ti_ok ti_ht mix (List.forall_mem_nil _) (List.forall_mem_nil _) ⟨⟨Try.f86, (codeOf Try.f86), [.tmp 6], (LOn Bool), by kernel_rfl, by kernel_rfl, by kernel_rfl, by kernel_rfl, rfl, by decide, ⟨by kernel_rfl, ?_, ?_⟩, ?_⟩⟩
  · exact no_loops (by kernel_rfl)
  · exact no_cuts (by kernel_rfl)
  · rintro ⟨n0, low1, high2⟩
    kernel_rfl
/- 87 loop.example/g01005/spec.l30Line -/
def spec_l30Line (k : Nat) (lines0 : List (List UInt8)) (i1 : Int) : Option (List UInt8) := (if (decide (i1 < (List.length lines0 : Int))) = true then (if 0 ≤ i1 then (lines0[i1.toNat]?).bind fun y_1 => some y_1 else none) else (if (decide ((List.length lines0 : Int) = 0)) = true then some [] else (lines0[0]?).bind fun y_2 => (spec_l30Times k [32] (List.length y_2 : Int)).bind fun r_3 => some r_3))
def fe_spec_l30Line (k : Nat) : FE := ⟨(.pr (.sl 9 .str) (.int .i64)), 1, .str, fun x => spec_l30Line k x.1 x.2⟩
theorem ok_spec_l30Line (k : Nat) : FnOK Try.prog 87 (fe_spec_l30Line k) := by
  refine closed_ok (tab := [(78, fe_spec_l30Times k)]) (l := []) ti_ok ti_ht mix (List.forall_mem_cons.2 ⟨ok_spec_l30Times k, (List.forall_mem_nil _)⟩) (List.forall_mem_nil _) ⟨⟨Try.f87, (codeOf Try.f87), [.tmp 4], (LOn (List UInt8)), by kernel_rfl, by kernel_rfl, by kernel_rfl, by kernel_rfl, rfl, by decide, ⟨by kernel_rfl, ?_, ?_⟩, ?_⟩⟩
  · exact no_loops (by kernel_rfl)
  · exact no_cuts (by kernel_rfl)
  · rintro ⟨lines0, i1⟩
    kernel_rfl
/- 37 loop.example/g01005/spec.BesidePictures -/
def spec_BesidePictures_l0 (k : Nat) : Nat → (List (List UInt8)) → (List (List UInt8)) → Int → Int → (List (List UInt8)) → ((List (List UInt8)) → Option (List (List UInt8) × Int)) → Option (List (List UInt8) × Int)
  | 0, _, _, _, _, _, _ => none
  | n + 1, a0, b1, gap2, i9, q_4, e_0 => (if (decide (i9 < (List.length a0 : Int))) = true then (spec_l30Line k a0 i9).bind fun r_5 => (spec_l30Times k [32] gap2).bind fun r_6 => (if r_5.length + r_6.length ≤ 9223372036854775807 then (spec_l30Line k b1 i9).bind fun r_7 => (if (r_5 ++ r_6).length + r_7.length ≤ 9223372036854775807 then (if (q_4.length + [((r_5 ++ r_6) ++ r_7)].length) * 16 ≤ LIM then spec_BesidePictures_l0 k n a0 b1 gap2 (w_i64 (i9 + 1)) (q_4 ++ [((r_5 ++ r_6) ++ r_7)]) e_0 else none) else none) else none) else (if (decide (i9 < (List.length b1 : Int))) = true then (spec_l30Line k a0 i9).bind fun r_8 => (spec_l30Times k [32] gap2).bind fun r_9 => (if r_8.length + r_9.length ≤ 9223372036854775807 then (spec_l30Line k b1 i9).bind fun r_10 => (if (r_8 ++ r_9).length + r_10.length ≤ 9223372036854775807 then (if (q_4.length + [((r_8 ++ r_9) ++ r_10)].length) * 16 ≤ LIM then spec_BesidePictures_l0 k n a0 b1 gap2 (w_i64 (i9 + 1)) (q_4 ++ [((r_8 ++ r_9) ++ r_10)]) e_0 else none) else none) else none) else e_0 q_4))
def spec_BesidePictures (k : Nat) (a0 : List (List UInt8)) (b1 : List (List UInt8)) (gap2 : Int) : Option (List (List UInt8) × Int) := (spec_l30Ok k a0).bind fun r_1 => (if (!r_1) = true then some ([], 1) else (spec_l30Ok k b1).bind fun r_2 => (if (!r_2) = true then some ([], 1) else (spec_l00In gap2 0 80).bind fun r_3 => (if (!r_3) = true then some ([], 2) else spec_BesidePictures_l0 k k a0 b1 gap2 0 [] (fun q_11 => (spec_l30Done_g k q_11).bind fun y_12 => some (y_12.2.1.1, y_12.1.1.2.1)))))
def spec_BesidePictures_l0_h : Head := ⟨[(0, (.val (.sl 9 .str))), (1, (.val (.sl 9 .str))), (2, (.val (.int .i64))), (8, (.ref 64000000 [])), (9, (.val (.int .i64)))], [(64000000, 9, .str, false)], []⟩
def spec_BesidePictures_l0_x0 : Head := ⟨[(8, (.ref 64000000 []))], [(64000000, 9, .str, false)], []⟩
def spec_BesidePictures_l0_F (k n : Nat) (x : spec_BesidePictures_l0_h.T) (kx : Nat → St → Option (List (List UInt8) × Int)) : Option (List (List UInt8) × Int) := spec_BesidePictures_l0 k n x.1.1 x.1.2.1 x.1.2.2.1 x.1.2.2.2.2.1 x.2.1.1 (fun (q_11 : List (List UInt8)) => kx 0 (spec_BesidePictures_l0_x0.fill (((), ()), (q_11, ()), ())))
def spec_BesidePictures_O (k : Nat) : Oracles (List (List UInt8) × Int) := ⟨fun n => bif Nat.beq n 7 then some (fun σ kx => spec_BesidePictures_l0_h.get σ fun x => spec_BesidePictures_l0_F k k x kx) else none, fun _ => none⟩
def fe_spec_BesidePictures (k : Nat) : FE := ⟨(.pr (.sl 9 .str) (.pr (.sl 9 .str) (.int .i64))), 2, (.pr (.sl 9 .str) (.int .i64)), fun x => spec_BesidePictures k x.1 x.2.1 x.2.2⟩
theorem spec_BesidePictures_l0_ok (k : Nat) : LoopOK (mkEnv ti [(77, fe_spec_l30Ok k), (86, fe_spec_l00In), (87, fe_spec_l30Line k), (78, fe_spec_l30Times k)] (lk [(48, 79, oc_spec_l30Done_g k)]) pins0 pinB0) (spec_BesidePictures_O k) (rdC (mkEnv ti [(77, fe_spec_l30Ok k), (86, fe_spec_l00In), (87, fe_spec_l30Line k), (78, fe_spec_l30Times k)] (lk [(48, 79, oc_spec_l30Done_g k)]) pins0 pinB0) [.tmp 6, .tmp 7] (.pr (.sl 9 .str) (.int .i64))) ((loopsOf (codeOf Try.f37)).getD 0 .skip) (fun σ kx => spec_BesidePictures_l0_h.get σ fun x => spec_BesidePictures_l0_F k k x kx) := by
  refine ⟨spec_BesidePictures_l0_h, [(0, spec_BesidePictures_l0_x0)], fun n x kx => spec_BesidePictures_l0_F k n x kx, k, by kernel_rfl, by kernel_rfl, fun x kx => by kernel_rfl, ?_, fun σ kx => rfl⟩
  rintro n ⟨⟨a0, b1, gap2, ⟨⟩, i9, ⟨⟩⟩, ⟨q_4, ⟨⟩⟩, ⟨⟩⟩ kx
  kernel_rfl
theorem ok_spec_BesidePictures (k : Nat) : FnOK Try.prog 37 (fe_spec_BesidePictures k) := by
  refine closed_ok (tab := [(77, fe_spec_l30Ok k), (86, fe_spec_l00In), (87, fe_spec_l30Line k), (78, fe_spec_l30Times k)]) (l := [(48, 79, oc_spec_l30Done_g k)]) ti_ok ti_ht mix (List.forall_mem_cons.2 ⟨ok_spec_l30Ok k, (List.forall_mem_cons.2 ⟨ok_spec_l00In, (List.forall_mem_cons.2 ⟨ok_spec_l30Line k, (List.forall_mem_cons.2 ⟨ok_spec_l30Times k, (List.forall_mem_nil _)⟩)⟩)⟩)⟩) (List.forall_mem_cons.2 ⟨ok_spec_l30Done_g k, (List.forall_mem_nil _)⟩) ⟨⟨Try.f37, (codeOf Try.f37), [.tmp 6, .tmp 7], (spec_BesidePictures_O k), by kernel_rfl, by kernel_rfl, by kernel_rfl, by kernel_rfl, rfl, by decide, ⟨by kernel_rfl, ?_, ?_⟩, ?_⟩⟩
  · refine loops_of (n := 1) (by kernel_rfl) fun i hi => ?_
    match i, hi with
    | 0, _ => exact loop_of (by kernel_rfl) (spec_BesidePictures_l0_ok k)
    | n + 1, hi => omega
  · exact no_cuts (by kernel_rfl)
  · rintro ⟨a0, b1, gap2⟩
    kernel_rfl
/- 88 loop.example/g01005/impl.within -/
def impl_within (n0 : Int) (low1 : Int) (high2 : Int) : Option Bool := (if (decide (low1 ≤ n0)) = true then some (decide (n0 ≤ high2)) else some false)
def fe_impl_within : FE := ⟨(.pr (.int .i64) (.pr (.int .i64) (.int .i64))), 1, .bool, fun x => impl_within x.1 x.2.1 x.2.2⟩
theorem ok_impl_within : FnOK Try.prog 88 (fe_impl_within) := by
  refine closed_ok (tab := []) (l := []) ti_ok ti_ht mix (List.forall_mem_nil _) (List.forall_mem_nil _) ⟨⟨Try.f88, (codeOf Try.f88), [.tmp 6], (LOn Bool), by kernel_rfl, by kernel_rfl, by kernel_rfl, by kernel_rfl, rfl, by decide, ⟨by kernel_rfl, ?_, ?_⟩, ?_⟩⟩
  · exact no_loops (by kernel_rfl)
  · exact no_cuts (by kernel_rfl)
  · rintro ⟨n0, low1, high2⟩
    kernel_rfl
/- 89 loop.example/g01005/impl.lineOr -/
def impl_lineOr (lines0 : List (List UInt8)) (k1 : Int) : Option (List UInt8) := (if (decide (k1 < (List.length lines0 : Int))) = true then (if 0 ≤ k1 then (lines0[k1.toNat]?).bind fun y_1 => some y_1 else none) else (impl_widthOf lines0).bind fun r_2 => (strings_Repeat [32] r_2).bind fun r_3 => some r_3)
def fe_impl_lineOr : FE := ⟨(.pr (.sl 9 .str) (.int .i64)), 1, .str, fun x => impl_lineOr x.1 x.2⟩
theorem ok_impl_lineOr : FnOK Try.prog 89 (fe_impl_lineOr) := by
  refine closed_ok (tab := [(82, fe_impl_widthOf), (81, fe_strings_Repeat)]) (l := []) ti_ok ti_ht mix (List.forall_mem_cons.2 ⟨ok_impl_widthOf, (List.forall_mem_cons.2 ⟨ok_strings_Repeat, (List.forall_mem_nil _)⟩)⟩) (List.forall_mem_nil _) ⟨⟨Try.f89, (codeOf Try.f89), [.tmp 4], (LOn (List UInt8)), by kernel_rfl, by kernel_rfl, by kernel_rfl, by kernel_rfl, rfl, by decide, ⟨by kernel_rfl, ?_, ?_⟩, ?_⟩⟩
  · exact no_loops (by kernel_rfl)
  · exact no_cuts (by kernel_rfl)
  · rintro ⟨lines0, k1⟩
    kernel_rfl
/- 38 loop.example/g01005/impl.BesidePictures -/
def impl_BesidePictures_l0 (k : Nat) : Nat → (List (List UInt8)) → (List (List UInt8)) → Int → Int → Int → (List (List UInt8)) → ((List (List UInt8)) → Option (List (List UInt8) × Int)) → Option (List (List UInt8) × Int)
  | 0, _, _, _, _, _, _, _ => none
  | n + 1, a0, b1, gap2, x25, x26, q_4, e_0 => (if (decide (x26 < x25)) = true then (impl_lineOr a0 x26).bind fun r_5 => (strings_Repeat [32] gap2).bind fun r_6 => (if r_5.length + r_6.length ≤ 9223372036854775807 then (impl_lineOr b1 x26).bind fun r_7 => (if (r_5 ++ r_6).length + r_7.length ≤ 9223372036854775807 then (if (q_4.length + [((r_5 ++ r_6) ++ r_7)].length) * 16 ≤ LIM then impl_BesidePictures_l0 k n a0 b1 gap2 x25 (w_i64 (x26 + 1)) (q_4 ++ [((r_5 ++ r_6) ++ r_7)]) e_0 else none) else none) else none) else e_0 q_4)
def impl_BesidePictures (k : Nat) (a0 : List (List UInt8)) (b1 : List (List UInt8)) (gap2 : Int) : Option (List (List UInt8) × Int) := (impl_ValidPicture k a0).bind fun r_1 => (if (!r_1) = true then some ([], 1) else (impl_ValidPicture k b1).bind fun r_2 => (if (!r_2) = true then some ([], 1) else (impl_within gap2 0 80).bind fun r_3 => (if (!r_3) = true then some ([], 2) else impl_BesidePictures_l0 k k a0 b1 gap2 (if (List.length a0 : Int) < (List.length b1 : Int) then (List.length b1 : Int) else (List.length a0 : Int)) 0 [] (fun q_8 => (impl_pictured k q_8).bind fun r_9 => some (r_9.1, r_9.2)))))
def impl_BesidePictures_l0_h : Head := ⟨[(0, (.val (.sl 9 .str))), (1, (.val (.sl 9 .str))), (2, (.val (.int .i64))), (8, (.ref 64000000 [])), (25, (.val (.int .i64))), (26, (.val (.int .i64)))], [(64000000, 9, .str, false)], []⟩
def impl_BesidePictures_l0_x0 : Head := ⟨[(8, (.ref 64000000 []))], [(64000000, 9, .str, false)], []⟩
def impl_BesidePictures_l0_F (k n : Nat) (x : impl_BesidePictures_l0_h.T) (kx : Nat → St → Option (List (List UInt8) × Int)) : Option (List (List UInt8) × Int) := impl_BesidePictures_l0 k n x.1.1 x.1.2.1 x.1.2.2.1 x.1.2.2.2.2.1 x.1.2.2.2.2.2.1 x.2.1.1 (fun (q_8 : List (List UInt8)) => kx 0 (impl_BesidePictures_l0_x0.fill (((), ()), (q_8, ()), ())))
def impl_BesidePictures_O (k : Nat) : Oracles (List (List UInt8) × Int) := ⟨fun n => bif Nat.beq n 7 then some (fun σ kx => impl_BesidePictures_l0_h.get σ fun x => impl_BesidePictures_l0_F k k x kx) else none, fun _ => none⟩
def fe_impl_BesidePictures (k : Nat) : FE := ⟨(.pr (.sl 9 .str) (.pr (.sl 9 .str) (.int .i64))), 2, (.pr (.sl 9 .str) (.int .i64)), fun x => impl_BesidePictures k x.1 x.2.1 x.2.2⟩
theorem impl_BesidePictures_l0_ok (k : Nat) : LoopOK (mkEnv ti [(80, fe_impl_ValidPicture k), (88, fe_impl_within), (89, fe_impl_lineOr), (81, fe_strings_Repeat), (83, fe_impl_pictured k)] (lk []) pins0 pinB0) (impl_BesidePictures_O k) (rdC (mkEnv ti [(80, fe_impl_ValidPicture k), (88, fe_impl_within), (89, fe_impl_lineOr), (81, fe_strings_Repeat), (83, fe_impl_pictured k)] (lk []) pins0 pinB0) [.tmp 6, .tmp 7] (.pr (.sl 9 .str) (.int .i64))) ((loopsOf (codeOf Try.f38)).getD 0 .skip) (fun σ kx => impl_BesidePictures_l0_h.get σ fun x => impl_BesidePictures_l0_F k k x kx) := by
  refine ⟨impl_BesidePictures_l0_h, [(0, impl_BesidePictures_l0_x0)], fun n x kx => impl_BesidePictures_l0_F k n x kx, k, by kernel_rfl, by kernel_rfl, fun x kx => by kernel_rfl, ?_, fun σ kx => rfl⟩
  rintro n ⟨⟨a0, b1, gap2, ⟨⟩, x25, x26, ⟨⟩⟩, ⟨q_4, ⟨⟩⟩, ⟨⟩⟩ kx
  kernel_rfl
theorem ok_impl_BesidePictures (k : Nat) : FnOK Try.prog 38 (fe_impl_BesidePictures k) := by
  refine closed_ok (tab := [(80, fe_impl_ValidPicture k), (88, fe_impl_within), (89, fe_impl_lineOr), (81, fe_strings_Repeat), (83, fe_impl_pictured k)]) (l := []) ti_ok ti_ht mix (List.forall_mem_cons.2 ⟨ok_impl_ValidPicture k, (List.forall_mem_cons.2 ⟨ok_impl_within, (List.forall_mem_cons.2 ⟨ok_impl_lineOr, (List.forall_mem_cons.2 ⟨ok_strings_Repeat, (List.forall_mem_cons.2 ⟨ok_impl_pictured k, (List.forall_mem_nil _)⟩)⟩)⟩)⟩)⟩) (List.forall_mem_nil _) ⟨⟨Try.f38, (codeOf Try.f38), [.tmp 6, .tmp 7], (impl_BesidePictures_O k), by kernel_rfl, by kernel_rfl, by kernel_rfl, by kernel_rfl, rfl, by decide, ⟨by kernel_rfl, ?_, ?_⟩, ?_⟩⟩
  · refine loops_of (n := 1) (by kernel_rfl) fun i hi => ?_
    match i, hi with
    | 0, _ => exact loop_of (by kernel_rfl) (impl_BesidePictures_l0_ok k)
    | n + 1, hi => omega
  · exact no_cuts (by kernel_rfl)
  · rintro ⟨a0, b1, gap2⟩
    kernel_rfl
/- 7 loop.example/g01005/laws.FnExactBesidePictures -/
def laws_FnExactBesidePictures (k : Nat) (aA0 : List (List UInt8)) (aB1 : List (List UInt8)) (aGap2 : Int) : Option Bool := (laws_szStringS k aA0 1048576).bind fun r_1 => (if (decide (r_1 < 0)) = true then some true else (laws_szStringS k aB1 r_1).bind fun r_2 => (if (decide (r_2 < 0)) = true then some true else (laws_toStringS k aA0).bind fun r_3 => (laws_toStringS k aB1).bind fun r_4 => (spec_BesidePictures k r_3 r_4 aGap2).bind fun r_5 => (laws_toStringS k aA0).bind fun r_6 => (laws_toStringS k aB1).bind fun r_7 => (impl_BesidePictures k r_6 r_7 aGap2).bind fun r_8 => (laws_eqStringS k r_8.1 r_5.1).bind fun r_9 => (if (!r_9) = true then some false else (if (!(decide (r_8.2 = r_5.2))) = true then some false else (laws_toStringS k aA0).bind fun r_10 => (laws_eqStringS k r_6 r_10).bind fun r_11 => (if (!r_11) = true then some false else (laws_toStringS k aB1).bind fun r_12 => (laws_eqStringS k r_7 r_12).bind fun r_13 => (if (!r_13) = true then some false else (laws_markStringS_o k 1 r_6).bind fun y_14 => (laws_markStringS_o k y_14.1.1 r_7).bind fun y_15 => (if (decide (y_15.1.1 < 0)) = true then some false else (laws_eqStringS k r_8.1 r_5.1).bind fun r_16 => (if (!r_16) = true then some false else (if (!(decide (r_8.2 = r_5.2))) = true then some false else (laws_markStringS_o k 1 r_8.1).bind fun y_17 => (laws_heldStringS k y_17.2.1.1 1).bind fun r_18 => (if (decide (r_18 < 0)) = true then some false else (if (!(decide (r_18 = y_17.1.1))) = true then some false else (laws_toStringS k aA0).bind fun r_19 => (laws_toStringS k aB1).bind fun r_20 => (impl_BesidePictures k r_19 r_20 aGap2).bind fun r_21 => (laws_eqStringS k r_21.1 r_5.1).bind fun r_22 => (if (!r_22) = true then some false else (if (!(decide (r_21.2 = r_5.2))) = true then some false else (laws_heldStringS k y_17.2.1.1 1).bind fun r_23 => (if (decide (r_23 < 0)) = true then some false else (if (!(decide (r_23 = y_17.1.1))) = true then some false else some true)))))))))))))))
def fe_laws_FnExactBesidePictures (k : Nat) : FE := ⟨(.pr (.sl 9 .str) (.pr (.sl 9 .str) (.int .i64))), 1, .bool, fun x => laws_FnExactBesidePictures k x.1 x.2.1 x.2.2⟩
theorem ok_laws_FnExactBesidePictures (k : Nat) : FnOK Try.prog 7 (fe_laws_FnExactBesidePictures k) := by
  refine closed_ok (tab := [(28, fe_laws_szStringS k), (30, fe_laws_toStringS k), (37, fe_spec_BesidePictures k), (38, fe_impl_BesidePictures k), (32, fe_laws_eqStringS k), (34, fe_laws_heldStringS k)]) (l := [(70, 33, oc_laws_markStringS_o k), (73, 33, oc_laws_markStringS_o k), (89, 33, oc_laws_markStringS_o k)]) ti_ok ti_ht mix (List.forall_mem_cons.2 ⟨ok_laws_szStringS k, (List.forall_mem_cons.2 ⟨ok_laws_toStringS k, (List.forall_mem_cons.2 ⟨ok_spec_BesidePictures k, (List.forall_mem_cons.2 ⟨ok_impl_BesidePictures k, (List.forall_mem_cons.2 ⟨ok_laws_eqStringS k, (List.forall_mem_cons.2 ⟨ok_laws_heldStringS k, (List.forall_mem_nil _)⟩)⟩)⟩)⟩)⟩)⟩) (List.forall_mem_cons.2 ⟨ok_laws_markStringS_o k, (List.forall_mem_cons.2 ⟨ok_laws_markStringS_o k, (List.forall_mem_cons.2 ⟨ok_laws_markStringS_o k, (List.forall_mem_nil _)⟩)⟩)⟩) ⟨⟨Try.f7, (codeOf Try.f7), [.tmp 6], (LOn Bool), by kernel_rfl, by kernel_rfl, by kernel_rfl, by kernel_rfl, rfl, by decide, ⟨by kernel_rfl, ?_, ?_⟩, ?_⟩⟩
  · exact no_loops (by kernel_rfl)
  · exact no_cuts (by kernel_rfl)
  · rintro ⟨aA0, aB1, aGap2⟩
    kernel_rfl
/- 45 loop.example/g01005/laws.szBarS -/
def laws_szBarS (a0 : List (Int × Int × Int)) (left1 : Int) : Option Int := (if (decide ((w_i64 (left1 - (List.length a0 : Int))) < 0)) = true then some (-1) else some (w_i64 (left1 - (List.length a0 : Int))))
def fe_laws_szBarS : FE := ⟨(.pr (.sl 112 (.st (.pr (.int .i64) (.pr (.int .i64) (.int .i64))))) (.int .i64)), 1, (.int .i64), fun x => laws_szBarS x.1 x.2⟩
theorem ok_laws_szBarS : FnOK Try.prog 45 (fe_laws_szBarS) := by
  refine closed_ok (tab := []) (l := []) ti_ok ti_ht mix (List.forall_mem_nil _) (List.forall_mem_nil _) ⟨⟨Try.f45, (codeOf Try.f45), [.tmp 4], (LOn Int), by kernel_rfl, by kernel_rfl, by kernel_rfl, by kernel_rfl, rfl, by decide, ⟨by kernel_rfl, ?_, ?_⟩, ?_⟩⟩
  · exact no_loops (by kernel_rfl)
  · exact no_cuts (by kernel_rfl)
  · rintro ⟨a0, left1⟩
    kernel_rfl
/- 93 loop.example/g01005/laws.toBar -/
def laws_toBar (a0 : Int × Int × Int) : Option (Int × Int × Int) := some (a0.1, (a0.2.1, a0.2.2))
def fe_laws_toBar : FE := ⟨(.st (.pr (.int .i64) (.pr (.int .i64) (.int .i64)))), 1, (.st (.pr (.int .i64) (.pr (.int .i64) (.int .i64)))), fun x => laws_toBar x⟩
theorem ok_laws_toBar : FnOK Try.prog 93 (fe_laws_toBar) := by
  refine closed_ok (tab := []) (l := []) ti_ok ti_ht mix (List.forall_mem_nil _) (List.forall_mem_nil _) ⟨⟨Try.f93, (codeOf Try.f93), [.cell 2 110], (LOn (Int × Int × Int)), by kernel_rfl, by kernel_rfl, by kernel_rfl, by kernel_rfl, rfl, by decide, ⟨by kernel_rfl, ?_, ?_⟩, ?_⟩⟩
  · exact no_loops (by kernel_rfl)
  · exact no_cuts (by kernel_rfl)
  · rintro a0
    kernel_rfl
/- 47 loop.example/g01005/laws.toBarS -/
def laws_toBarS_l0 (k : Nat) : Nat → (List (Int × Int × Int)) → Int → (List (Int × Int × Int)) → ((List (Int × Int × Int)) → Option (List (Int × Int × Int))) → Option (List (Int × Int × Int))
  | 0, _, _, _, _ => none
  | n + 1, a0, i4, q_1, e_0 => (if (decide (i4 < (List.length a0 : Int))) = true then (if 0 ≤ i4 then (a0[i4.toNat]?).bind fun y_2 => (laws_toBar y_2).bind fun r_3 => (if 0 ≤ i4 ∧ i4.toNat < List.length q_1 then (q_1[i4.toNat]?).bind fun y_4 => (q_1[i4.toNat]?).bind fun y_5 => laws_toBarS_l0 k n a0 (w_i64 (i4 + 1)) (q_1.set i4.toNat r_3) e_0 else none) else none) else e_0 q_1)
def laws_toBarS (k : Nat) (a0 : List (Int × Int × Int)) : Option (List (Int × Int × Int)) := (if 0 ≤ (List.length a0 : Int) ∧ (List.length a0 : Int) ≤ (List.length a0 : Int) ∧ (List.length a0 : Int) * 24 ≤ LIM then laws_toBarS_l0 k k a0 0 (List.replicate (List.length a0) (0, (0, 0))) (fun q_6 => some q_6) else none)
def laws_toBarS_l0_h : Head := ⟨[(0, (.val (.sl 112 (.st (.pr (.int .i64) (.pr (.int .i64) (.int .i64))))))), (3, (.ref 64000000 [])), (4, (.val (.int .i64)))], [(64000000, 110, (.st (.pr (.int .i64) (.pr (.int .i64) (.int .i64)))), false)], []⟩
def laws_toBarS_l0_x0 : Head := ⟨[(3, (.ref 64000000 []))], [(64000000, 110, (.st (.pr (.int .i64) (.pr (.int .i64) (.int .i64)))), false)], []⟩
def laws_toBarS_l0_F (k n : Nat) (x : laws_toBarS_l0_h.T) (kx : Nat → St → Option (List (Int × Int × Int))) : Option (List (Int × Int × Int)) := laws_toBarS_l0 k n x.1.1 x.1.2.2.1 x.2.1.1 (fun (q_6 : List (Int × Int × Int)) => kx 0 (laws_toBarS_l0_x0.fill (((), ()), (q_6, ()), ())))
def laws_toBarS_O (k : Nat) : Oracles (List (Int × Int × Int)) := ⟨fun n => bif Nat.beq n 3 then some (fun σ kx => laws_toBarS_l0_h.get σ fun x => laws_toBarS_l0_F k k x kx) else none, fun _ => none⟩
def fe_laws_toBarS (k : Nat) : FE := ⟨(.sl 112 (.st (.pr (.int .i64) (.pr (.int .i64) (.int .i64))))), 1, (.sl 110 (.st (.pr (.int .i64) (.pr (.int .i64) (.int .i64))))), fun x => laws_toBarS k x⟩
theorem laws_toBarS_l0_ok (k : Nat) : LoopOK (mkEnv ti [(93, fe_laws_toBar)] (lk []) pins0 pinB0) (laws_toBarS_O k) (rdC (mkEnv ti [(93, fe_laws_toBar)] (lk []) pins0 pinB0) [.tmp 2] (.sl 110 (.st (.pr (.int .i64) (.pr (.int .i64) (.int .i64)))))) ((loopsOf (codeOf Try.f47)).getD 0 .skip) (fun σ kx => laws_toBarS_l0_h.get σ fun x => laws_toBarS_l0_F k k x kx) := by
  refine ⟨laws_toBarS_l0_h, [(0, laws_toBarS_l0_x0)], fun n x kx => laws_toBarS_l0_F k n x kx, k, by kernel_rfl, by kernel_rfl, fun x kx => by kernel_rfl, ?_, fun σ kx => rfl⟩
  rintro n ⟨⟨a0, ⟨⟩, i4, ⟨⟩⟩, ⟨q_1, ⟨⟩⟩, ⟨⟩⟩ kx
  kernel_rfl
theorem ok_laws_toBarS (k : Nat) : FnOK Try.prog 47 (fe_laws_toBarS k) := by
  refine closed_ok (tab := [(93, fe_laws_toBar)]) (l := []) ti_ok ti_ht mix (List.forall_mem_cons.2 ⟨ok_laws_toBar, (List.forall_mem_nil _)⟩) (List.forall_mem_nil _) ⟨⟨Try.f47, (codeOf Try.f47), [.tmp 2], (laws_toBarS_O k), by kernel_rfl, by kernel_rfl, by kernel_rfl, by kernel_rfl, rfl, by decide, ⟨by kernel_rfl, ?_, ?_⟩, ?_⟩⟩
  · refine loops_of (n := 1) (by kernel_rfl) fun i hi => ?_
    match i, hi with
    | 0, _ => exact loop_of (by kernel_rfl) (laws_toBarS_l0_ok k)
    | n + 1, hi => omega
  · exact no_cuts (by kernel_rfl)
  · rintro a0
    kernel_rfl
/- 123 loop.example/g01005/spec.l05Dimension -/
def spec_l05Dimension (n0 : Int) : Option Bool := (spec_l00In n0 0 3).bind fun r_1 => some r_1
def fe_spec_l05Dimension : FE := ⟨(.int .i64), 1, .bool, fun x => spec_l05Dimension x⟩
theorem ok_spec_l05Dimension : FnOK Try.prog 123 (fe_spec_l05Dimension) := by
  refine closed_ok (tab := [(86, fe_spec_l00In)]) (l := []) ti_ok ti_ht mix (List.forall_mem_cons.2 ⟨ok_spec_l00In, (List.forall_mem_nil _)⟩) (List.forall_mem_nil _) ⟨⟨Try.f123, (codeOf Try.f123), [.tmp 2], (LOn Bool), by kernel_rfl, by kernel_rfl, by kernel_rfl, by kernel_rfl, rfl, by decide, ⟨by kernel_rfl, ?_, ?_⟩, ?_⟩⟩
  · exact no_loops (by kernel_rfl)
  · exact no_cuts (by kernel_rfl)
  · rintro n0
    kernel_rfl
/- 124 loop.example/g01005/spec.l21Time -/
def spec_l21Time (t0 : Int) : Option Bool := (spec_l00In t0 0 1000).bind fun r_1 => some r_1
def fe_spec_l21Time : FE := ⟨(.int .i64), 1, .bool, fun x => spec_l21Time x⟩
theorem ok_spec_l21Time : FnOK Try.prog 124 (fe_spec_l21Time) := by
  refine closed_ok (tab := [(86, fe_spec_l00In)]) (l := []) ti_ok ti_ht mix (List.forall_mem_cons.2 ⟨ok_spec_l00In, (List.forall_mem_nil _)⟩) (List.forall_mem_nil _) ⟨⟨Try.f124, (codeOf Try.f124), [.tmp 2], (LOn Bool), by kernel_rfl, by kernel_rfl, by kernel_rfl, by kernel_rfl, rfl, by decide, ⟨by kernel_rfl, ?_, ?_⟩, ?_⟩⟩
  · exact no_loops (by kernel_rfl)
  · exact no_cuts (by kernel_rfl)
  · rintro t0
    kernel_rfl
/- 125 loop.example/g01005/spec.l21Before -/
def spec_l21Before (a0 : Int × Int × Int) (b1 : Int × Int × Int) : Option Bool := (if (!(decide (a0.1 = b1.1))) = true then some (decide (a0.1 < b1.1)) else (if (!(decide (a0.2.1 = b1.2.1))) = true then some (decide (a0.2.1 < b1.2.1)) else (if (!(decide (a0.2.2 = (-1)))) = true then (if (decide (b1.2.2 = (-1))) = true then some true else some (decide (a0.2.2 < b1.2.2))) else some false)))
def fe_spec_l21Before : FE := ⟨(.pr (.ptr (.st (.pr (.int .i64) (.pr (.int .i64) (.int .i64))))) (.ptr (.st (.pr (.int .i64) (.pr (.int .i64) (.int .i64)))))), 1, .bool, fun x => spec_l21Before x.1 x.2⟩
theorem ok_spec_l21Before : FnOK Try.prog 125 (fe_spec_l21Before) := by
  refine closed_ok (tab := []) (l := []) ti_ok ti_ht mix (List.forall_mem_nil _) (List.forall_mem_nil _) ⟨⟨Try.f125, (codeOf Try.f125), [.tmp 4], (LOn Bool), by kernel_rfl, by kernel_rfl, by kernel_rfl, by kernel_rfl, rfl, by decide, ⟨by kernel_rfl, ?_, ?_⟩, ?_⟩⟩
  · exact no_loops (by kernel_rfl)
  · exact no_cuts (by kernel_rfl)
  · rintro ⟨a0, b1⟩
    kernel_rfl
/- 92 loop.example/g01005/spec.l21List -/
def spec_l21List_l0 (k : Nat) : Nat → (List (Int × Int × Int)) → Int → ((List (Int × Int × Int)) → Option Bool) → Option Bool
  | 0, _, _, _ => none
  | n + 1, list0, i3, e_0 => (if (decide (i3 < (List.length list0 : Int))) = true then (if 0 ≤ i3 then (list0[i3.toNat]?).bind fun y_1 => (spec_l05Dimension y_1.1).bind fun r_2 => (if (!r_2) = true then some false else (spec_l21Time y_1.2.1).bind fun r_3 => (if (!r_3) = true then some false else (if (!(decide (y_1.2.2 = (-1)))) = true then (if (decide (y_1.2.2 ≤ y_1.2.1)) = true then some false else (spec_l21Time y_1.2.2).bind fun r_4 => (if (!r_4) = true then some false else (if (decide (0 < i3)) = true then (if 0 ≤ (w_i64 (i3 - 1)) then (list0[(w_i64 (i3 - 1)).toNat]?).bind fun y_5 => (spec_l21Before y_1 y_5).bind fun r_6 => (if r_6 = true then some false else spec_l21List_l0 k n list0 (w_i64 (i3 + 1)) e_0) else none) else spec_l21List_l0 k n list0 (w_i64 (i3 + 1)) e_0))) else (if (decide (0 < i3)) = true then (if 0 ≤ (w_i64 (i3 - 1)) then (list0[(w_i64 (i3 - 1)).toNat]?).bind fun y_7 => (spec_l21Before y_1 y_7).bind fun r_8 => (if r_8 = true then some false else spec_l21List_l0 k n list0 (w_i64 (i3 + 1)) e_0) else none) else spec_l21List_l0 k n list0 (w_i64 (i3 + 1)) e_0)))) else none) else e_0 list0)
def spec_l21List (k : Nat) (list0 : List (Int × Int × Int)) : Option Bool := spec_l21List_l0 k k list0 0 (fun list_9 => some (decide ((List.length list_9 : Int) ≤ 24)))
def spec_l21List_l0_h : Head := ⟨[(0, (.val (.sl 110 (.st (.pr (.int .i64) (.pr (.int .i64) (.int .i64))))))), (3, (.val (.int .i64)))], [], []⟩
def spec_l21List_l0_x0 : Head := ⟨[(0, (.val (.sl 110 (.st (.pr (.int .i64) (.pr (.int .i64) (.int .i64)))))))], [], []⟩
def spec_l21List_l0_F (k n : Nat) (x : spec_l21List_l0_h.T) (kx : Nat → St → Option Bool) : Option Bool := spec_l21List_l0 k n x.1.1 x.1.2.1 (fun (list0 : List (Int × Int × Int)) => kx 0 (spec_l21List_l0_x0.fill ((list0, ()), (), ())))
def spec_l21List_O (k : Nat) : Oracles Bool := ⟨fun n => bif Nat.beq n 2 then some (fun σ kx => spec_l21List_l0_h.get σ fun x => spec_l21List_l0_F k k x kx) else none, fun _ => none⟩
def fe_spec_l21List (k : Nat) : FE := ⟨(.sl 110 (.st (.pr (.int .i64) (.pr (.int .i64) (.int .i64))))), 1, .bool, fun x => spec_l21List k x⟩
theorem spec_l21List_l0_ok (k : Nat) : LoopOK (mkEnv ti [(123, fe_spec_l05Dimension), (124, fe_spec_l21Time), (125, fe_spec_l21Before)] (lk []) pins0 pinB0) (spec_l21List_O k) (rdC (mkEnv ti [(123, fe_spec_l05Dimension), (124, fe_spec_l21Time), (125, fe_spec_l21Before)] (lk []) pins0 pinB0) [.tmp 2] .bool) ((loopsOf (codeOf Try.f92)).getD 0 .skip) (fun σ kx => spec_l21List_l0_h.get σ fun x => spec_l21List_l0_F k k x kx) := by
  refine ⟨spec_l21List_l0_h, [(0, spec_l21List_l0_x0)], fun n x kx => spec_l21List_l0_F k n x kx, k, by kernel_rfl, by kernel_rfl, fun x kx => by kernel_rfl, ?_, fun σ kx => rfl⟩
  rintro n ⟨⟨list0, i3, ⟨⟩⟩, ⟨⟩, ⟨⟩⟩ kx
  kernel_rfl
theorem ok_spec_l21List (k : Nat) : FnOK Try.prog 92 (fe_spec_l21List k) := by
  refine closed_ok (tab := [(123, fe_spec_l05Dimension), (124, fe_spec_l21Time), (125, fe_spec_l21Before)]) (l := []) ti_ok ti_ht mix (List.forall_mem_cons.2 ⟨ok_spec_l05Dimension, (List.forall_mem_cons.2 ⟨ok_spec_l21Time, (List.forall_mem_cons.2 ⟨ok_spec_l21Before, (List.forall_mem_nil _)⟩)⟩)⟩) (List.forall_mem_nil _) ⟨⟨Try.f92, (codeOf Try.f92), [.tmp 2], (spec_l21List_O k), by kernel_rfl, by kernel_rfl, by kernel_rfl, by kernel_rfl, rfl, by decide, ⟨by kernel_rfl, ?_, ?_⟩, ?_⟩⟩
  · refine loops_of (n := 1) (by kernel_rfl) fun i hi => ?_
    match i, hi with
    | 0, _ => exact loop_of (by kernel_rfl) (spec_l21List_l0_ok k)
    | n + 1, hi => omega
  · exact no_cuts (by kernel_rfl)
  · rintro list0
    kernel_rfl
end Go.Proofs.Ytkopnopjbaejjaa.Ev
