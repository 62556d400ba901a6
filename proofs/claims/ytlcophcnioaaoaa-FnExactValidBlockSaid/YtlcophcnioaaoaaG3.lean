/- Functions of the program, as plain ones. No conditions. -/
import Derived.Test.YtlcophcnioaaoaaG2
import Derived.KernelRfl
set_option linter.unusedVariables false
set_option maxRecDepth 100000
namespace Go.Proofs.Ytlcophcnioaaoaa.Ev
open Go.RowKit
/- 31 loop.example/g01005/impl.CropPicture -/
def impl_CropPicture_l0 (k : Nat) : Nat → Int → Int → (List (List UInt8)) → Int → Int → (List (List UInt8)) → ((List (List UInt8)) → Option (List (List UInt8) × Int)) → Option (List (List UInt8) × Int)
  | 0, _, _, _, _, _, _, _ => none
  | n + 1, x1, width3, x53, x54, x55, q_10, e_0 => (if (decide (x55 < x54)) = true then (if 0 ≤ x55 then (x53[x55.toNat]?).bind fun y_11 => (if 0 ≤ x1 ∧ x1 ≤ (w_i64 (x1 + width3)) ∧ (w_i64 (x1 + width3)) ≤ y_11.length then (if (q_10.length + [((y_11.drop x1.toNat).take ((w_i64 (x1 + width3)).toNat - x1.toNat))].length) * 16 ≤ LIM then impl_CropPicture_l0 k n x1 width3 x53 x54 (w_i64 (x55 + 1)) (q_10 ++ [((y_11.drop x1.toNat).take ((w_i64 (x1 + width3)).toNat - x1.toNat))]) e_0 else none) else none) else none) else e_0 q_10)
def impl_CropPicture (k : Nat) (lines0 : List (List UInt8)) (x1 : Int) (y2 : Int) (width3 : Int) (height4 : Int) : Option (List (List UInt8) × Int) := (impl_ValidPicture k lines0).bind fun r_1 => (if (!r_1) = true then some ([], 1) else (impl_widthOf lines0).bind fun r_2 => (impl_within x1 0 r_2).bind fun r_3 => (if (!r_3) = true then some ([], 2) else (impl_widthOf lines0).bind fun r_4 => (impl_within width3 0 (w_i64 (r_4 - x1))).bind fun r_5 => (if (!r_5) = true then some ([], 2) else (impl_size_string lines0).bind fun r_6 => (impl_within y2 0 r_6).bind fun r_7 => (if (!r_7) = true then some ([], 2) else (impl_size_string lines0).bind fun r_8 => (impl_within height4 0 (w_i64 (r_8 - y2))).bind fun r_9 => (if (!r_9) = true then some ([], 2) else (if 0 ≤ y2 ∧ y2 ≤ (w_i64 (y2 + height4)) ∧ (w_i64 (y2 + height4)) ≤ lines0.length then impl_CropPicture_l0 k k x1 width3 ((lines0.drop y2.toNat).take ((w_i64 (y2 + height4)).toNat - y2.toNat)) (List.length ((lines0.drop y2.toNat).take ((w_i64 (y2 + height4)).toNat - y2.toNat)) : Int) 0 [] (fun q_12 => some (q_12, 0)) else none))))))
def impl_CropPicture_l0_h : Head := ⟨[(1, (.val (.int .i64))), (3, (.val (.int .i64))), (12, (.ref 64000000 [])), (53, (.val (.sl 9 .str))), (54, (.val (.int .i64))), (55, (.val (.int .i64)))], [(64000000, 9, .str, false)], []⟩
def impl_CropPicture_l0_x0 : Head := ⟨[(12, (.ref 64000000 []))], [(64000000, 9, .str, false)], []⟩
def impl_CropPicture_l0_F (k n : Nat) (x : impl_CropPicture_l0_h.T) (kx : Nat → St → Option (List (List UInt8) × Int)) : Option (List (List UInt8) × Int) := impl_CropPicture_l0 k n x.1.1 x.1.2.1 x.1.2.2.2.1 x.1.2.2.2.2.1 x.1.2.2.2.2.2.1 x.2.1.1 (fun (q_12 : List (List UInt8)) => kx 0 (impl_CropPicture_l0_x0.fill (((), ()), (q_12, ()), ())))
def impl_CropPicture_O (k : Nat) : Oracles (List (List UInt8) × Int) := ⟨fun n => bif Nat.beq n 7 then some (fun σ kx => impl_CropPicture_l0_h.get σ fun x => impl_CropPicture_l0_F k k x kx) else none, fun _ => none⟩
def fe_impl_CropPicture (k : Nat) : FE := ⟨(.pr (.sl 9 .str) (.pr (.int .i64) (.pr (.int .i64) (.pr (.int .i64) (.int .i64))))), 2, (.pr (.sl 9 .str) (.int .i64)), fun x => impl_CropPicture k x.1 x.2.1 x.2.2.1 x.2.2.2.1 x.2.2.2.2⟩
theorem impl_CropPicture_l0_ok (k : Nat) : LoopOK (mkEnv ti [(24, fe_impl_ValidPicture k), (41, fe_impl_widthOf), (48, fe_impl_within), (49, fe_impl_size_string)] (lk []) pins0 pinB0) (impl_CropPicture_O k) (rdC (mkEnv ti [(24, fe_impl_ValidPicture k), (41, fe_impl_widthOf), (48, fe_impl_within), (49, fe_impl_size_string)] (lk []) pins0 pinB0) [.tmp 10, .tmp 11] (.pr (.sl 9 .str) (.int .i64))) ((loopsOf (codeOf Try.f31)).getD 0 .skip) (fun σ kx => impl_CropPicture_l0_h.get σ fun x => impl_CropPicture_l0_F k k x kx) := by
  refine ⟨impl_CropPicture_l0_h, [(0, impl_CropPicture_l0_x0)], fun n x kx => impl_CropPicture_l0_F k n x kx, k, by kernel_rfl, by kernel_rfl, fun x kx => by kernel_rfl, ?_, fun σ kx => rfl⟩
  rintro n ⟨⟨x1, width3, ⟨⟩, x53, x54, x55, ⟨⟩⟩, ⟨q_10, ⟨⟩⟩, ⟨⟩⟩ kx
  kernel_rfl
theorem ok_impl_CropPicture (k : Nat) : FnOK Try.prog 31 (fe_impl_CropPicture k) := by
  refine closed_ok (tab := [(24, fe_impl_ValidPicture k), (41, fe_impl_widthOf), (48, fe_impl_within), (49, fe_impl_size_string)]) (l := []) ti_ok ti_ht mix (List.forall_mem_cons.2 ⟨ok_impl_ValidPicture k, (List.forall_mem_cons.2 ⟨ok_impl_widthOf, (List.forall_mem_cons.2 ⟨ok_impl_within, (List.forall_mem_cons.2 ⟨ok_impl_size_string, (List.forall_mem_nil _)⟩)⟩)⟩)⟩) (List.forall_mem_nil _) ⟨⟨Try.f31, (codeOf Try.f31), [.tmp 10, .tmp 11], (impl_CropPicture_O k), by kernel_rfl, by kernel_rfl, by kernel_rfl, by kernel_rfl, rfl, by decide, ⟨by kernel_rfl, ?_, ?_⟩, ?_⟩⟩
  · refine loops_of (n := 1) (by kernel_rfl) fun i hi => ?_
    match i, hi with
    | 0, _ => exact loop_of (by kernel_rfl) (impl_CropPicture_l0_ok k)
    | n + 1, hi => omega
  · exact no_cuts (by kernel_rfl)
  · rintro ⟨lines0, x1, y2, width3, height4⟩
    kernel_rfl
/- 8 loop.example/g01005/laws.FnExactCropPicture -/
def laws_FnExactCropPicture (k : Nat) (aLines0 : List (List UInt8)) (aX1 : Int) (aY2 : Int) (aWidth3 : Int) (aHeight4 : Int) : Option Bool := (laws_szStringS k aLines0 1048576).bind fun r_1 => (if (decide (r_1 < 0)) = true then some true else (laws_toStringS k aLines0).bind fun r_2 => (spec_CropPicture k r_2 aX1 aY2 aWidth3 aHeight4).bind fun r_3 => (laws_toStringS k aLines0).bind fun r_4 => (impl_CropPicture k r_4 aX1 aY2 aWidth3 aHeight4).bind fun r_5 => (laws_eqStringS k r_5.1 r_3.1).bind fun r_6 => (if (!r_6) = true then some false else (if (!(decide (r_5.2 = r_3.2))) = true then some false else (laws_toStringS k aLines0).bind fun r_7 => (laws_eqStringS k r_4 r_7).bind fun r_8 => (if (!r_8) = true then some false else (laws_markStringS_o k 1 r_4).bind fun y_9 => (if (decide (y_9.1.1 < 0)) = true then some false else (laws_eqStringS k r_5.1 r_3.1).bind fun r_10 => (if (!r_10) = true then some false else (if (!(decide (r_5.2 = r_3.2))) = true then some false else (laws_markStringS_o k 1 r_5.1).bind fun y_11 => (laws_heldStringS k y_11.2.1.1 1).bind fun r_12 => (if (decide (r_12 < 0)) = true then some false else (if (!(decide (r_12 = y_11.1.1))) = true then some false else (laws_toStringS k aLines0).bind fun r_13 => (impl_CropPicture k r_13 aX1 aY2 aWidth3 aHeight4).bind fun r_14 => (laws_eqStringS k r_14.1 r_3.1).bind fun r_15 => (if (!r_15) = true then some false else (if (!(decide (r_14.2 = r_3.2))) = true then some false else (laws_heldStringS k y_11.2.1.1 1).bind fun r_16 => (if (decide (r_16 < 0)) = true then some false else (if (!(decide (r_16 = y_11.1.1))) = true then some false else some true)))))))))))))
def fe_laws_FnExactCropPicture (k : Nat) : FE := ⟨(.pr (.sl 9 .str) (.pr (.int .i64) (.pr (.int .i64) (.pr (.int .i64) (.int .i64))))), 1, .bool, fun x => laws_FnExactCropPicture k x.1 x.2.1 x.2.2.1 x.2.2.2.1 x.2.2.2.2⟩
theorem ok_laws_FnExactCropPicture (k : Nat) : FnOK Try.prog 8 (fe_laws_FnExactCropPicture k) := by
  refine closed_ok (tab := [(21, fe_laws_szStringS k), (23, fe_laws_toStringS k), (30, fe_spec_CropPicture k), (31, fe_impl_CropPicture k), (18, fe_laws_eqStringS k), (20, fe_laws_heldStringS k)]) (l := [(64, 19, oc_laws_markStringS_o k), (80, 19, oc_laws_markStringS_o k)]) ti_ok ti_ht mix (List.forall_mem_cons.2 ⟨ok_laws_szStringS k, (List.forall_mem_cons.2 ⟨ok_laws_toStringS k, (List.forall_mem_cons.2 ⟨ok_spec_CropPicture k, (List.forall_mem_cons.2 ⟨ok_impl_CropPicture k, (List.forall_mem_cons.2 ⟨ok_laws_eqStringS k, (List.forall_mem_cons.2 ⟨ok_laws_heldStringS k, (List.forall_mem_nil _)⟩)⟩)⟩)⟩)⟩)⟩) (List.forall_mem_cons.2 ⟨ok_laws_markStringS_o k, (List.forall_mem_cons.2 ⟨ok_laws_markStringS_o k, (List.forall_mem_nil _)⟩)⟩) ⟨⟨Try.f8, (codeOf Try.f8), [.tmp 10], (LOn Bool), by kernel_rfl, by kernel_rfl, by kernel_rfl, by kernel_rfl, rfl, by decide, ⟨by kernel_rfl, ?_, ?_⟩, ?_⟩⟩
  · exact no_loops (by kernel_rfl)
  · exact no_cuts (by kernel_rfl)
  · rintro ⟨aLines0, aX1, aY2, aWidth3, aHeight4⟩
    kernel_rfl
/- 56 loop.example/g01005/spec.l01Small -/
def spec_l01Small (c0 : Int) : Option Bool := (if (decide (97 ≤ c0)) = true then some (decide (c0 ≤ 122)) else some false)
def fe_spec_l01Small : FE := ⟨(.int .u8), 1, .bool, fun x => spec_l01Small x⟩
theorem ok_spec_l01Small : FnOK Try.prog 56 (fe_spec_l01Small) := by
  refine closed_ok (tab := []) (l := []) ti_ok ti_ht mix (List.forall_mem_nil _) (List.forall_mem_nil _) ⟨⟨Try.f56, (codeOf Try.f56), [.tmp 2], (LOn Bool), by kernel_rfl, by kernel_rfl, by kernel_rfl, by kernel_rfl, rfl, by decide, ⟨by kernel_rfl, ?_, ?_⟩, ?_⟩⟩
  · exact no_loops (by kernel_rfl)
  · exact no_cuts (by kernel_rfl)
  · rintro c0
    kernel_rfl
/- 57 loop.example/g01005/spec.l01Digit -/
def spec_l01Digit (c0 : Int) : Option Bool := (if (decide (48 ≤ c0)) = true then some (decide (c0 ≤ 57)) else some false)
def fe_spec_l01Digit : FE := ⟨(.int .u8), 1, .bool, fun x => spec_l01Digit x⟩
theorem ok_spec_l01Digit : FnOK Try.prog 57 (fe_spec_l01Digit) := by
  refine closed_ok (tab := []) (l := []) ti_ok ti_ht mix (List.forall_mem_nil _) (List.forall_mem_nil _) ⟨⟨Try.f57, (codeOf Try.f57), [.tmp 2], (LOn Bool), by kernel_rfl, by kernel_rfl, by kernel_rfl, by kernel_rfl, rfl, by decide, ⟨by kernel_rfl, ?_, ?_⟩, ?_⟩⟩
  · exact no_loops (by kernel_rfl)
  · exact no_cuts (by kernel_rfl)
  · rintro c0
    kernel_rfl
/- 54 loop.example/g01005/spec.l01Name -/
def spec_l01Name_l0 (k : Nat) : Nat → (List UInt8) → Int → (Option Bool) → Option Bool
  | 0, _, _, _ => none
  | n + 1, s0, i3, e_0 => (if (decide (i3 < (List.length s0 : Int))) = true then (if 0 ≤ i3 then (s0[i3.toNat]?).bind fun b_3 => (spec_l01Small (z_u8 b_3)).bind fun r_4 => (if (!r_4) = true then (if 0 ≤ i3 then (s0[i3.toNat]?).bind fun b_5 => (spec_l01Digit (z_u8 b_5)).bind fun r_6 => (if (!r_6) = true then some false else spec_l01Name_l0 k n s0 (w_i64 (i3 + 1)) e_0) else none) else spec_l01Name_l0 k n s0 (w_i64 (i3 + 1)) e_0) else none) else e_0)
def spec_l01Name (k : Nat) (s0 : List UInt8) : Option Bool := (if (decide (s0 = [])) = true then some false else (if (decide (10 < (List.length s0 : Int))) = true then some false else (s0[0]?).bind fun b_1 => (spec_l01Small (z_u8 b_1)).bind fun r_2 => (if (!r_2) = true then some false else spec_l01Name_l0 k k s0 0 (some true))))
def spec_l01Name_l0_h : Head := ⟨[(0, (.val .str)), (3, (.val (.int .i64)))], [], []⟩
def spec_l01Name_l0_x0 : Head := ⟨[], [], []⟩
def spec_l01Name_l0_F (k n : Nat) (x : spec_l01Name_l0_h.T) (kx : Nat → St → Option Bool) : Option Bool := spec_l01Name_l0 k n x.1.1 x.1.2.1 (kx 0 (spec_l01Name_l0_x0.fill ((), (), ())))
def spec_l01Name_O (k : Nat) : Oracles Bool := ⟨fun n => bif Nat.beq n 4 then some (fun σ kx => spec_l01Name_l0_h.get σ fun x => spec_l01Name_l0_F k k x kx) else none, fun _ => none⟩
def fe_spec_l01Name (k : Nat) : FE := ⟨.str, 1, .bool, fun x => spec_l01Name k x⟩
theorem spec_l01Name_l0_ok (k : Nat) : LoopOK (mkEnv ti [(56, fe_spec_l01Small), (57, fe_spec_l01Digit)] (lk []) pins0 pinB0) (spec_l01Name_O k) (rdC (mkEnv ti [(56, fe_spec_l01Small), (57, fe_spec_l01Digit)] (lk []) pins0 pinB0) [.tmp 2] .bool) ((loopsOf (codeOf Try.f54)).getD 0 .skip) (fun σ kx => spec_l01Name_l0_h.get σ fun x => spec_l01Name_l0_F k k x kx) := by
  refine ⟨spec_l01Name_l0_h, [(0, spec_l01Name_l0_x0)], fun n x kx => spec_l01Name_l0_F k n x kx, k, by kernel_rfl, by kernel_rfl, fun x kx => by kernel_rfl, ?_, fun σ kx => rfl⟩
  rintro n ⟨⟨s0, i3, ⟨⟩⟩, ⟨⟩, ⟨⟩⟩ kx
  kernel_rfl
theorem ok_spec_l01Name (k : Nat) : FnOK Try.prog 54 (fe_spec_l01Name k) := by
  refine closed_ok (tab := [(56, fe_spec_l01Small), (57, fe_spec_l01Digit)]) (l := []) ti_ok ti_ht mix (List.forall_mem_cons.2 ⟨ok_spec_l01Small, (List.forall_mem_cons.2 ⟨ok_spec_l01Digit, (List.forall_mem_nil _)⟩)⟩) (List.forall_mem_nil _) ⟨⟨Try.f54, (codeOf Try.f54), [.tmp 2], (spec_l01Name_O k), by kernel_rfl, by kernel_rfl, by kernel_rfl, by kernel_rfl, rfl, by decide, ⟨by kernel_rfl, ?_, ?_⟩, ?_⟩⟩
  · refine loops_of (n := 1) (by kernel_rfl) fun i hi => ?_
    match i, hi with
    | 0, _ => exact loop_of (by kernel_rfl) (spec_l01Name_l0_ok k)
    | n + 1, hi => omega
  · exact no_cuts (by kernel_rfl)
  · rintro s0
    kernel_rfl
/- 50 loop.example/g01005/spec.l29One -/
def spec_l29One_l0 (k : Nat) : Nat → (List UInt8 × List UInt8 × List UInt8) → Int → ((List UInt8 × List UInt8 × List UInt8) → Option Bool) → Option Bool
  | 0, _, _, _ => none
  | n + 1, b0, i3, e_0 => (if (decide (i3 < (List.length b0.2.2 : Int))) = true then (if 0 ≤ i3 then (b0.2.2[i3.toNat]?).bind fun b_1 => (if (decide ((z_u8 b_1) = 10)) = true then some false else spec_l29One_l0 k n b0 (w_i64 (i3 + 1)) e_0) else none) else e_0 b0)
def spec_l29One (k : Nat) (b0 : List UInt8 × List UInt8 × List UInt8) : Option Bool := spec_l29One_l0 k k b0 0 (fun b_2 => (spec_l01Name k b_2.1).bind fun r_3 => (if r_3 = true then (spec_l01Name k b_2.2.1).bind fun r_4 => (if r_4 = true then some (decide ((List.length b_2.2.2 : Int) ≤ 400)) else some false) else some false))
def spec_l29One_l0_h : Head := ⟨[(0, (.val (.ptr (.st (.pr .str (.pr .str .str)))))), (3, (.val (.int .i64)))], [], []⟩
def spec_l29One_l0_x0 : Head := ⟨[(0, (.val (.ptr (.st (.pr .str (.pr .str .str))))))], [], []⟩
def spec_l29One_l0_F (k n : Nat) (x : spec_l29One_l0_h.T) (kx : Nat → St → Option Bool) : Option Bool := spec_l29One_l0 k n x.1.1 x.1.2.1 (fun (b0 : List UInt8 × List UInt8 × List UInt8) => kx 0 (spec_l29One_l0_x0.fill ((b0, ()), (), ())))
def spec_l29One_O (k : Nat) : Oracles Bool := ⟨fun n => bif Nat.beq n 2 then some (fun σ kx => spec_l29One_l0_h.get σ fun x => spec_l29One_l0_F k k x kx) else none, fun _ => none⟩
def fe_spec_l29One (k : Nat) : FE := ⟨(.ptr (.st (.pr .str (.pr .str .str)))), 1, .bool, fun x => spec_l29One k x⟩
theorem spec_l29One_l0_ok (k : Nat) : LoopOK (mkEnv ti [(54, fe_spec_l01Name k)] (lk []) pins0 pinB0) (spec_l29One_O k) (rdC (mkEnv ti [(54, fe_spec_l01Name k)] (lk []) pins0 pinB0) [.tmp 2] .bool) ((loopsOf (codeOf Try.f50)).getD 0 .skip) (fun σ kx => spec_l29One_l0_h.get σ fun x => spec_l29One_l0_F k k x kx) := by
  refine ⟨spec_l29One_l0_h, [(0, spec_l29One_l0_x0)], fun n x kx => spec_l29One_l0_F k n x kx, k, by kernel_rfl, by kernel_rfl, fun x kx => by kernel_rfl, ?_, fun σ kx => rfl⟩
  rintro n ⟨⟨b0, i3, ⟨⟩⟩, ⟨⟩, ⟨⟩⟩ kx
  kernel_rfl
theorem ok_spec_l29One (k : Nat) : FnOK Try.prog 50 (fe_spec_l29One k) := by
  refine closed_ok (tab := [(54, fe_spec_l01Name k)]) (l := []) ti_ok ti_ht mix (List.forall_mem_cons.2 ⟨ok_spec_l01Name k, (List.forall_mem_nil _)⟩) (List.forall_mem_nil _) ⟨⟨Try.f50, (codeOf Try.f50), [.tmp 2], (spec_l29One_O k), by kernel_rfl, by kernel_rfl, by kernel_rfl, by kernel_rfl, rfl, by decide, ⟨by kernel_rfl, ?_, ?_⟩, ?_⟩⟩
  · refine loops_of (n := 1) (by kernel_rfl) fun i hi => ?_
    match i, hi with
    | 0, _ => exact loop_of (by kernel_rfl) (spec_l29One_l0_ok k)
    | n + 1, hi => omega
  · exact no_cuts (by kernel_rfl)
  · rintro b0
    kernel_rfl
/- 33 loop.example/g01005/spec.ValidBlock -/
def spec_ValidBlock (k : Nat) (b0 : List UInt8 × List UInt8 × List UInt8) : Option Bool := (spec_l29One k b0).bind fun r_1 => some r_1
def fe_spec_ValidBlock (k : Nat) : FE := ⟨(.st (.pr .str (.pr .str .str))), 1, .bool, fun x => spec_ValidBlock k x⟩
theorem ok_spec_ValidBlock (k : Nat) : FnOK Try.prog 33 (fe_spec_ValidBlock k) := by
  refine closed_ok (tab := [(50, fe_spec_l29One k)]) (l := []) ti_ok ti_ht mix (List.forall_mem_cons.2 ⟨ok_spec_l29One k, (List.forall_mem_nil _)⟩) (List.forall_mem_nil _) ⟨⟨Try.f33, (codeOf Try.f33), [.tmp 2], (LOn Bool), by kernel_rfl, by kernel_rfl, by kernel_rfl, by kernel_rfl, rfl, by decide, ⟨by kernel_rfl, ?_, ?_⟩, ?_⟩⟩
  · exact no_loops (by kernel_rfl)
  · exact no_cuts (by kernel_rfl)
  · rintro b0
    kernel_rfl
/- 51 loop.example/g01005/impl.IsName -/
def impl_IsName_l0 (k : Nat) : Nat → Int → Int → (List Int) → (Option Bool) → Option Bool
  | 0, _, _, _, _ => none
  | n + 1, x17, x18, q_1, e_0 => (if (decide (x18 < x17)) = true then (if 0 ≤ x18 ∧ x18.toNat < List.length q_1 then (q_1[x18.toNat]?).bind fun y_2 => (if (decide (97 ≤ y_2)) = true then (if (decide (48 ≤ y_2)) = true then (if (!(decide (y_2 ≤ 122))) = true then (if (decide (x18 = 0)) = true then some false else (if (!(decide (y_2 ≤ 57))) = true then some false else impl_IsName_l0 k n x17 (w_i64 (x18 + 1)) q_1 e_0)) else impl_IsName_l0 k n x17 (w_i64 (x18 + 1)) q_1 e_0) else (if (!(decide (y_2 ≤ 122))) = true then (if (decide (x18 = 0)) = true then some false else some false) else impl_IsName_l0 k n x17 (w_i64 (x18 + 1)) q_1 e_0)) else (if (decide (48 ≤ y_2)) = true then (if (decide (x18 = 0)) = true then some false else (if (!(decide (y_2 ≤ 57))) = true then some false else impl_IsName_l0 k n x17 (w_i64 (x18 + 1)) q_1 e_0)) else (if (decide (x18 = 0)) = true then some false else some false))) else none) else e_0)
def impl_IsName (k : Nat) (s0 : List UInt8) : Option Bool := (if (decide ((List.length s0 : Int) < 1)) = true then some false else (if (decide (10 < (List.length s0 : Int))) = true then some false else (if s0.length ≤ LIM then impl_IsName_l0 k k (List.length (of_S s0) : Int) 0 (of_S s0) (some true) else none)))
def impl_IsName_l0_h : Head := ⟨[(16, (.ref 64000000 [])), (17, (.val (.int .i64))), (18, (.val (.int .i64)))], [(64000000, 5, (.int .u8), true)], []⟩
def impl_IsName_l0_x0 : Head := ⟨[], [], []⟩
def impl_IsName_l0_F (k n : Nat) (x : impl_IsName_l0_h.T) (kx : Nat → St → Option Bool) : Option Bool := impl_IsName_l0 k n x.1.2.1 x.1.2.2.1 x.2.1.1 (kx 0 (impl_IsName_l0_x0.fill ((), (), ())))
def impl_IsName_O (k : Nat) : Oracles Bool := ⟨fun n => bif Nat.beq n 4 then some (fun σ kx => impl_IsName_l0_h.get σ fun x => impl_IsName_l0_F k k x kx) else none, fun _ => none⟩
def fe_impl_IsName (k : Nat) : FE := ⟨.str, 1, .bool, fun x => impl_IsName k x⟩
theorem impl_IsName_l0_ok (k : Nat) : LoopOK (mkEnv ti [] (lk []) pins0 pinB0) (impl_IsName_O k) (rdC (mkEnv ti [] (lk []) pins0 pinB0) [.tmp 2] .bool) ((loopsOf (codeOf Try.f51)).getD 0 .skip) (fun σ kx => impl_IsName_l0_h.get σ fun x => impl_IsName_l0_F k k x kx) := by
  refine ⟨impl_IsName_l0_h, [(0, impl_IsName_l0_x0)], fun n x kx => impl_IsName_l0_F k n x kx, k, by kernel_rfl, by kernel_rfl, fun x kx => by kernel_rfl, ?_, fun σ kx => rfl⟩
  rintro n ⟨⟨⟨⟩, x17, x18, ⟨⟩⟩, ⟨q_1, ⟨⟩⟩, ⟨⟩⟩ kx
  kernel_rfl
theorem ok_impl_IsName (k : Nat) : FnOK Try.prog 51 (fe_impl_IsName k) := by
  refine closed_ok (tab := []) (l := []) ti_ok ti_ht mix (List.forall_mem_nil _) (List.forall_mem_nil _) ⟨⟨Try.f51, (codeOf Try.f51), [.tmp 2], (impl_IsName_O k), by kernel_rfl, by kernel_rfl, by kernel_rfl, by kernel_rfl, rfl, by decide, ⟨by kernel_rfl, ?_, ?_⟩, ?_⟩⟩
  · refine loops_of (n := 1) (by kernel_rfl) fun i hi => ?_
    match i, hi with
    | 0, _ => exact loop_of (by kernel_rfl) (impl_IsName_l0_ok k)
    | n + 1, hi => omega
  · exact no_cuts (by kernel_rfl)
  · rintro s0
    kernel_rfl
/- 63 internal/bytealg.IndexByteString (by hand) -/
def bytealg_IndexByteString (s : List UInt8) (c : Int) : Option Int := some (Lib.indexByte s (c.toNat.toUInt8))
abbrev fe_bytealg_IndexByteString : FE := fe_indexByteString
theorem ok_bytealg_IndexByteString : FnOK Try.prog 63 fe_bytealg_IndexByteString := ok_indexByteString (fn := Try.f63) (by kernel_rfl) (by kernel_rfl) (by kernel_rfl) (by kernel_rfl) (by kernel_rfl)
/- 59 internal/stringslite.IndexByte -/
def stringslite_IndexByte (s0 : List UInt8) (c1 : Int) : Option Int := (bytealg_IndexByteString s0 c1).bind fun r_1 => some r_1
def fe_stringslite_IndexByte : FE := ⟨(.pr .str (.int .u8)), 1, (.int .i64), fun x => stringslite_IndexByte x.1 x.2⟩
theorem ok_stringslite_IndexByte : FnOK Try.prog 59 (fe_stringslite_IndexByte) := by
  refine closed_ok (tab := [(63, fe_bytealg_IndexByteString)]) (l := []) ti_ok ti_ht mix (List.forall_mem_cons.2 ⟨ok_bytealg_IndexByteString, (List.forall_mem_nil _)⟩) (List.forall_mem_nil _) ⟨⟨Try.f59, (codeOf Try.f59), [.tmp 4], (LOn Int), by kernel_rfl, by kernel_rfl, by kernel_rfl, by kernel_rfl, rfl, by decide, ⟨by kernel_rfl, ?_, ?_⟩, ?_⟩⟩
  · exact no_loops (by kernel_rfl)
  · exact no_cuts (by kernel_rfl)
  · rintro ⟨s0, c1⟩
    kernel_rfl
/- 58 internal/stringslite.Index -/
def stringslite_Index (s0 : List UInt8) (substr1 : List UInt8) : Option Int := (if (decide ((List.length substr1 : Int) = 0)) = true then some 0 else (if (decide (substr1 = s0)) = true then some 0 else (if (decide ((List.length substr1 : Int) = 1)) = true then (substr1[0]?).bind fun b_1 => (stringslite_IndexByte s0 (z_u8 b_1)).bind fun r_2 => some r_2 else (if (decide ((List.length s0 : Int) ≤ (List.length substr1 : Int))) = true then some (-1) else none))))
def fe_stringslite_Index : FE := ⟨(.pr .str .str), 1, (.int .i64), fun x => stringslite_Index x.1 x.2⟩
theorem ok_stringslite_Index : FnOK Try.prog 58 (fe_stringslite_Index) := by
  refine closed_ok (tab := [(59, fe_stringslite_IndexByte)]) (l := []) ti_ok ti_ht mix (List.forall_mem_cons.2 ⟨ok_stringslite_IndexByte, (List.forall_mem_nil _)⟩) (List.forall_mem_nil _) ⟨⟨Try.f58, (codeOf Try.f58), [.tmp 4], (LOn Int), by kernel_rfl, by kernel_rfl, by kernel_rfl, by kernel_rfl, rfl, by decide, ⟨by kernel_rfl, ?_, ?_⟩, ?_⟩⟩
  · exact no_loops (by kernel_rfl)
  · exact no_cuts (by kernel_rfl)
  · rintro ⟨s0, substr1⟩
    kernel_rfl
/- 55 strings.Index -/
def strings_Index (s0 : List UInt8) (substr1 : List UInt8) : Option Int := (stringslite_Index s0 substr1).bind fun r_1 => some r_1
def fe_strings_Index : FE := ⟨(.pr .str .str), 1, (.int .i64), fun x => strings_Index x.1 x.2⟩
theorem ok_strings_Index : FnOK Try.prog 55 (fe_strings_Index) := by
  refine closed_ok (tab := [(58, fe_stringslite_Index)]) (l := []) ti_ok ti_ht mix (List.forall_mem_cons.2 ⟨ok_stringslite_Index, (List.forall_mem_nil _)⟩) (List.forall_mem_nil _) ⟨⟨Try.f55, (codeOf Try.f55), [.tmp 4], (LOn Int), by kernel_rfl, by kernel_rfl, by kernel_rfl, by kernel_rfl, rfl, by decide, ⟨by kernel_rfl, ?_, ?_⟩, ?_⟩⟩
  · exact no_loops (by kernel_rfl)
  · exact no_cuts (by kernel_rfl)
  · rintro ⟨s0, substr1⟩
    kernel_rfl
/- 52 strings.Contains -/
def strings_Contains (s0 : List UInt8) (substr1 : List UInt8) : Option Bool := (strings_Index s0 substr1).bind fun r_1 => some (decide (0 ≤ r_1))
def fe_strings_Contains : FE := ⟨(.pr .str .str), 1, .bool, fun x => strings_Contains x.1 x.2⟩
theorem ok_strings_Contains : FnOK Try.prog 52 (fe_strings_Contains) := by
  refine closed_ok (tab := [(55, fe_strings_Index)]) (l := []) ti_ok ti_ht mix (List.forall_mem_cons.2 ⟨ok_strings_Index, (List.forall_mem_nil _)⟩) (List.forall_mem_nil _) ⟨⟨Try.f52, (codeOf Try.f52), [.tmp 4], (LOn Bool), by kernel_rfl, by kernel_rfl, by kernel_rfl, by kernel_rfl, rfl, by decide, ⟨by kernel_rfl, ?_, ?_⟩, ?_⟩⟩
  · exact no_loops (by kernel_rfl)
  · exact no_cuts (by kernel_rfl)
  · rintro ⟨s0, substr1⟩
    kernel_rfl
/- 35 loop.example/g01005/impl.ValidBlock -/
def impl_ValidBlock (k : Nat) (b0 : List UInt8 × List UInt8 × List UInt8) : Option Bool := (impl_IsName k b0.1).bind fun r_1 => (if r_1 = true then (impl_IsName k b0.2.1).bind fun r_2 => (if r_2 = true then (if (decide ((List.length b0.2.2 : Int) ≤ 400)) = true then (strings_Contains b0.2.2 [10]).bind fun r_3 => some (!r_3) else some false) else some false) else some false)
def fe_impl_ValidBlock (k : Nat) : FE := ⟨(.st (.pr .str (.pr .str .str))), 1, .bool, fun x => impl_ValidBlock k x⟩
theorem ok_impl_ValidBlock (k : Nat) : FnOK Try.prog 35 (fe_impl_ValidBlock k) := by
  refine closed_ok (tab := [(51, fe_impl_IsName k), (52, fe_strings_Contains)]) (l := []) ti_ok ti_ht mix (List.forall_mem_cons.2 ⟨ok_impl_IsName k, (List.forall_mem_cons.2 ⟨ok_strings_Contains, (List.forall_mem_nil _)⟩)⟩) (List.forall_mem_nil _) ⟨⟨Try.f35, (codeOf Try.f35), [.tmp 2], (LOn Bool), by kernel_rfl, by kernel_rfl, by kernel_rfl, by kernel_rfl, rfl, by decide, ⟨by kernel_rfl, ?_, ?_⟩, ?_⟩⟩
  · exact no_loops (by kernel_rfl)
  · exact no_cuts (by kernel_rfl)
  · rintro b0
    kernel_rfl
/- 9 loop.example/g01005/laws.FnExactValidBlock -/
def laws_FnExactValidBlock (k : Nat) (aB0 : List UInt8 × List UInt8 × List UInt8) : Option Bool := (laws_szBlock aB0 1048576).bind fun r_1 => (if (decide (r_1 < 0)) = true then some true else (laws_toBlock aB0).bind fun r_2 => (spec_ValidBlock k r_2).bind fun r_3 => (laws_toBlock aB0).bind fun r_4 => (impl_ValidBlock k r_4).bind fun r_5 => (if (!(r_5 == r_3)) = true then some false else some true))
def fe_laws_FnExactValidBlock (k : Nat) : FE := ⟨(.st (.pr .str (.pr .str .str))), 1, .bool, fun x => laws_FnExactValidBlock k x⟩
theorem ok_laws_FnExactValidBlock (k : Nat) : FnOK Try.prog 9 (fe_laws_FnExactValidBlock k) := by
  refine closed_ok (tab := [(32, fe_laws_szBlock), (34, fe_laws_toBlock), (33, fe_spec_ValidBlock k), (35, fe_impl_ValidBlock k)]) (l := []) ti_ok ti_ht mix (List.forall_mem_cons.2 ⟨ok_laws_szBlock, (List.forall_mem_cons.2 ⟨ok_laws_toBlock, (List.forall_mem_cons.2 ⟨ok_spec_ValidBlock k, (List.forall_mem_cons.2 ⟨ok_impl_ValidBlock k, (List.forall_mem_nil _)⟩)⟩)⟩)⟩) (List.forall_mem_nil _) ⟨⟨Try.f9, (codeOf Try.f9), [.tmp 2], (LOn Bool), by kernel_rfl, by kernel_rfl, by kernel_rfl, by kernel_rfl, rfl, by decide, ⟨by kernel_rfl, ?_, ?_⟩, ?_⟩⟩
  · exact no_loops (by kernel_rfl)
  · exact no_cuts (by kernel_rfl)
  · rintro aB0
    kernel_rfl
end Go.Proofs.Ytlcophcnioaaoaa.Ev
