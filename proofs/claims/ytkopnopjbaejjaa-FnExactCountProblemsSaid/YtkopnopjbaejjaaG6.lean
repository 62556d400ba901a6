/- Functions of the program, as plain ones. No conditions. -/
import Derived.Test.YtkopnopjbaejjaaG5
import Derived.KernelRfl
set_option linter.unusedVariables false
set_option maxRecDepth 100000
namespace Go.Proofs.Ytkopnopjbaejjaa.Ev
open Go.RowKit
noncomputable section
/- 38 loop.example/g01005/impl.BesidePictures -/
def impl_BesidePictures_l0 (k : Nat) : Nat → (List (List UInt8)) → (List (List UInt8)) → Int → Int → Int → (List (List UInt8)) → ((List (List UInt8)) → Option (List (List UInt8) × Int)) → Option (List (List UInt8) × Int)
  | 0, _, _, _, _, _, _, _ => none
  | n + 1, a0, b1, gap2, x25, x26, q_4, e_0 => (if (decide (x26 < x25)) = true then (impl_lineOr a0 x26).bind fun r_5 => (strings_Repeat [32] gap2).bind fun r_6 => (if r_5.length + r_6.length ≤ 9223372036854775807 then (impl_lineOr b1 x26).bind fun r_7 => (if (r_5 ++ r_6).length + r_7.length ≤ 9223372036854775807 then (if (q_4.length + [((r_5 ++ r_6) ++ r_7)].length) * 16 ≤ LIM then impl_BesidePictures_l0 k n a0 b1 gap2 x25 (w_i64 (x26 + 1)) (q_4 ++ [((r_5 ++ r_6) ++ r_7)]) e_0 else none) else none) else none) else e_0 q_4)
def impl_BesidePictures (k : Nat) (a0 : List (List UInt8)) (b1 : List (List UInt8)) (gap2 : Int) : Option (List (List UInt8) × Int) := (impl_ValidPicture k a0).bind fun r_1 => (if (!r_1) = true then some ([], 1) else (impl_ValidPicture k b1).bind fun r_2 => (if (!r_2) = true then some ([], 1) else (impl_within gap2 0 80).bind fun r_3 => (if (!r_3) = true then some ([], 2) else impl_BesidePictures_l0 k k a0 b1 gap2 (if (List.length a0 : Int) < (List.length b1 : Int) then (List.length b1 : Int) else (List.length a0 : Int)) 0 [] (fun q_8 => (impl_pictured k q_8).bind fun r_9 => some (r_9.1, r_9.2)))))
def impl_BesidePictures_l0_h : Head := ⟨[(0, (.val (.sl 9 .str))), (1, (.val (.sl 9 .str))), (2, (.val (.int .i64))), (8, (.ref 64000000 [])), (25, (.val (.int .i64))), (26, (.val (.int .i64)))], [(64000000, 9, .str, false)], []⟩
def impl_BesidePictures_l0_x0 : Head := ⟨[(8, (.ref 64000000 []))], [(64000000, 9, .str, false)], []⟩
def impl_BesidePictures_l0_F (k n : Nat) (x : impl_BesidePictures_l0_h.T) (kx : Nat → St → Option (List (List UInt8) × Int)) : Option (List (List UInt8) × Int) := impl_BesidePictures_l0 k n x.1.1 x.1.2.1 x.1.2.2.1 x.1.2.2.2.2.1 x.1.2.2.2.2.2.1 x.2.1.1 (fun (q_8 : List (List UInt8)) => kx 0 (impl_BesidePictures_l0_x0.fill (((), ()), (q_8, ()), ())))
def impl_BesidePictures_O (k : Nat) : Oracles (List (List UInt8) × Int) := ⟨fun n => bif Nat.beq n 7 then some (fun σ kx => impl_BesidePictures_l0_h.get σ fun x => impl_BesidePictures_l0_F k k x kx) else none, fun _ => none⟩
def fe_impl_BesidePictures (k : Nat) : FE := ⟨(.pr (.sl 9 .str) (.pr (.sl 9 .str) (.int .i64))), 2, (.pr (.sl 9 .str) (.int .i64)), fun x => impl_BesidePictures k x.1 x.2.1 x.2.2⟩
theorem impl_BesidePictures_l0_ok (k : Nat) : LoopOK (mkEnv ti [(80, fe_impl_ValidPicture k), (88, fe_impl_within), (89, fe_impl_lineOr), (81, fe_strings_Repeat), (83, fe_impl_pictured k)] (lk []) pins0 pinB0) (impl_BesidePictures_O k) (rdC (mkEnv ti [(80, fe_impl_ValidPicture k), (88, fe_impl_within), (89, fe_impl_lineOr), (81, fe_strings_Repeat), (83, fe_impl_pictured k)] (lk []) pins0 pinB0) [.tmp 6, .tmp 7] (.pr (.sl 9 .str) (.int .i64))) ((loopsOf (codeOf Try.f38)).getD 0 .skip) (fun σ kx => impl_BesidePictures_l0_h.get σ fun x => impl_BesidePictures_l0_F k k x kx) := by
  refine ⟨impl_BesidePictures_l0_h, [(0, impl_BesidePictures_l0_x0)], fun n x kx => impl_BesidePictures_l0_F k n x kx, k, by kernel_rfl, by kernel_rfl, fun x kx => by kernel_rfl, ?_, fun σ kx => rfl⟩
  rintro n ⟨⟨a0, b1, gap2, ⟨⟩, x25, x26, ⟨⟩⟩, ⟨q_4, ⟨⟩⟩, ⟨⟩⟩ kx
  kernel_rfl
theorem ok_impl_BesidePictures (k : Nat) : FnOK Try.prog 38 (fe_impl_BesidePictures k) := by
  refine closed_ok (tab := [(80, fe_impl_ValidPicture k), (88, fe_impl_within), (89, fe_impl_lineOr), (81, fe_strings_Repeat), (83, fe_impl_pictured k)]) (l := []) ti_ok ti_ht mix (List.forall_mem_cons.2 ⟨ok_impl_ValidPicture k, (List.forall_mem_cons.2 ⟨ok_impl_within, (List.forall_mem_cons.2 ⟨ok_impl_lineOr, (List.forall_mem_cons.2 ⟨ok_strings_Repeat, (List.forall_mem_cons.2 ⟨ok_impl_pictured k, (List.forall_mem_nil _)⟩)⟩)⟩)⟩)⟩) (List.forall_mem_nil _) ⟨⟨Try.f38, (codeOf Try.f38), [.tmp 6, .tmp 7], (impl_BesidePictures_O k), by kernel_rfl, by kernel_rfl, by kernel_rfl, by kernel_rfl, rfl, by decide, ⟨by kernel_rfl, ?_, ?_⟩, ?_⟩⟩
  · refine loops_of (n := 1) (by kernel_rfl) fun i hi => ?_
    match i, hi with
    | 0, _ => exact loop_of (by kernel_rfl) (impl_BesidePictures_l0_ok k)
    | n + 1, hi => omega
  · exact no_cuts (by kernel_rfl)
  · rintro ⟨a0, b1, gap2⟩
    kernel_rfl
/- 7 loop.example/g01005/laws.FnExactBesidePictures -/
def laws_FnExactBesidePictures (k : Nat) (aA0 : List (List UInt8)) (aB1 : List (List UInt8)) (aGap2 : Int) : Option Bool := (laws_szStringS k aA0 1048576).bind fun r_1 => (if (decide (r_1 < 0)) = true then some true else (laws_szStringS k aB1 r_1).bind fun r_2 => (if (decide (r_2 < 0)) = true then some true else (laws_toStringS k aA0).bind fun r_3 => (laws_toStringS k aB1).bind fun r_4 => (spec_BesidePictures k r_3 r_4 aGap2).bind fun r_5 => (laws_toStringS k aA0).bind fun r_6 => (laws_toStringS k aB1).bind fun r_7 => (impl_BesidePictures k r_6 r_7 aGap2).bind fun r_8 => (laws_eqStringS k r_8.1 r_5.1).bind fun r_9 => (if (!r_9) = true then some false else (if (!(decide (r_8.2 = r_5.2))) = true then some false else (laws_toStringS k aA0).bind fun r_10 => (laws_eqStringS k r_6 r_10).bind fun r_11 => (if (!r_11) = true then some false else (laws_toStringS k aB1).bind fun r_12 => (laws_eqStringS k r_7 r_12).bind fun r_13 => (if (!r_13) = true then some false else (laws_markStringS_o k 1 r_6).bind fun y_14 => (laws_markStringS_o k y_14.1.1 r_7).bind fun y_15 => (if (decide (y_15.1.1 < 0)) = true then some false else (laws_eqStringS k r_8.1 r_5.1).bind fun r_16 => (if (!r_16) = true then some false else (if (!(decide (r_8.2 = r_5.2))) = true then some false else (laws_markStringS_o k 1 r_8.1).bind fun y_17 => (laws_heldStringS k y_17.2.1.1 1).bind fun r_18 => (if (decide (r_18 < 0)) = true then some false else (if (!(decide (r_18 = y_17.1.1))) = true then some false else (laws_toStringS k aA0).bind fun r_19 => (laws_toStringS k aB1).bind fun r_20 => (impl_BesidePictures k r_19 r_20 aGap2).bind fun r_21 => (laws_eqStringS k r_21.1 r_5.1).bind fun r_22 => (if (!r_22) = true then some false else (if (!(decide (r_21.2 = r_5.2))) = true then some false else (laws_heldStringS k y_17.2.1.1 1).bind fun r_23 => (if (decide (r_23 < 0)) = true then some false else (if (!(decide (r_23 = y_17.1.1))) = true then some false else some true)))))))))))))))
def fe_laws_FnExactBesidePictures (k : Nat) : FE := ⟨(.pr (.sl 9 .str) (.pr (.sl 9 .str) (.int .i64))), 1, .bool, fun x => laws_FnExactBesidePictures k x.1 x.2.1 x.2.2⟩
theorem ok_laws_FnExactBesidePictures (k : Nat) : FnOK Try.prog 7 (fe_laws_FnExactBesidePictures k) := by
  refine closed_ok (tab := [(28, fe_laws_szStringS k), (30, fe_laws_toStringS k), (37, fe_spec_BesidePictures k), (38, fe_impl_BesidePictures k), (32, fe_laws_eqStringS k), (34, fe_laws_heldStringS k)]) (l := [(70, 33, oc_laws_markStringS_o k), (73, 33, oc_laws_markStringS_o k), (89, 33, oc_laws_markStringS_o k)]) ti_ok ti_ht mix (List.forall_mem_cons.2 ⟨ok_laws_szStringS k, (List.forall_mem_cons.2 ⟨ok_laws_toStringS k, (List.forall_mem_cons.2 ⟨ok_spec_BesidePictures k, (List.forall_mem_cons.2 ⟨ok_impl_BesidePictures k, (List.forall_mem_cons.2 ⟨ok_laws_eqStringS k, (List.forall_mem_cons.2 ⟨ok_laws_heldStringS k, (List.forall_mem_nil _)⟩)⟩)⟩)⟩)⟩)⟩) (List.forall_mem_cons.2 ⟨ok_laws_markStringS_o k, (List.forall_mem_cons.2 ⟨ok_laws_markStringS_o k, (List.forall_mem_cons.2 ⟨ok_laws_markStringS_o k, (List.forall_mem_nil _)⟩)⟩)⟩) ⟨⟨Try.f7, (codeOf Try.f7), [.tmp 6], (LOn Bool), by kernel_rfl, by kernel_rfl, by kernel_rfl, by kernel_rfl, rfl, by decide, ⟨by kernel_rfl, ?_, ?_⟩, ?_⟩⟩
  · exact no_loops (by kernel_rfl)
  · exact no_cuts (by kernel_rfl)
  · rintro ⟨aA0, aB1, aGap2⟩
    kernel_rfl
/- 45 loop.example/g01005/laws.szBarS -/
def laws_szBarS (a0 : List (Int × Int × Int)) (left1 : Int) : Option Int := (if (decide ((w_i64 (left1 - (List.length a0 : Int))) < 0)) = true then some (-1) else some (w_i64 (left1 - (List.length a0 : Int))))
def fe_laws_szBarS : FE := ⟨(.pr (.sl 112 (.st (.pr (.int .i64) (.pr (.int .i64) (.int .i64))))) (.int .i64)), 1, (.int .i64), fun x => laws_szBarS x.1 x.2⟩
theorem ok_laws_szBarS : FnOK Try.prog 45 (fe_laws_szBarS) := by
  refine closed_ok (tab := []) (l := []) ti_ok ti_ht mix (List.forall_mem_nil _) (List.forall_mem_nil _) ⟨⟨Try.f45, (codeOf Try.f45), [.tmp 4], (LOn Int), by kernel_rfl, by kernel_rfl, by kernel_rfl, by kernel_rfl, rfl, by decide, ⟨by kernel_rfl, ?_, ?_⟩, ?_⟩⟩
  · exact no_loops (by kernel_rfl)
  · exact no_cuts (by kernel_rfl)
  · rintro ⟨a0, left1⟩
    kernel_rfl
/- 93 loop.example/g01005/laws.toBar -/
def laws_toBar (a0 : Int × Int × Int) : Option (Int × Int × Int) := some (a0.1, (a0.2.1, a0.2.2))
def fe_laws_toBar : FE := ⟨(.st (.pr (.int .i64) (.pr (.int .i64) (.int .i64)))), 1, (.st (.pr (.int .i64) (.pr (.int .i64) (.int .i64)))), fun x => laws_toBar x⟩
theorem ok_laws_toBar : FnOK Try.prog 93 (fe_laws_toBar) := by
  refine closed_ok (tab := []) (l := []) ti_ok ti_ht mix (List.forall_mem_nil _) (List.forall_mem_nil _) ⟨⟨Try.f93, (codeOf Try.f93), [.cell 2 110], (LOn (Int × Int × Int)), by kernel_rfl, by kernel_rfl, by kernel_rfl, by kernel_rfl, rfl, by decide, ⟨by kernel_rfl, ?_, ?_⟩, ?_⟩⟩
  · exact no_loops (by kernel_rfl)
  · exact no_cuts (by kernel_rfl)
  · rintro a0
    kernel_rfl
/- 47 loop.example/g01005/laws.toBarS -/
def laws_toBarS_l0 (k : Nat) : Nat → (List (Int × Int × Int)) → Int → (List (Int × Int × Int)) → ((List (Int × Int × Int)) → Option (List (Int × Int × Int))) → Option (List (Int × Int × Int))
  | 0, _, _, _, _ => none
  | n + 1, a0, i4, q_1, e_0 => (if (decide (i4 < (List.length a0 : Int))) = true then (if 0 ≤ i4 then (a0[i4.toNat]?).bind fun y_2 => (laws_toBar y_2).bind fun r_3 => (if 0 ≤ i4 ∧ i4.toNat < List.length q_1 then (q_1[i4.toNat]?).bind fun y_4 => (q_1[i4.toNat]?).bind fun y_5 => laws_toBarS_l0 k n a0 (w_i64 (i4 + 1)) (q_1.set i4.toNat r_3) e_0 else none) else none) else e_0 q_1)
def laws_toBarS (k : Nat) (a0 : List (Int × Int × Int)) : Option (List (Int × Int × Int)) := (if 0 ≤ (List.length a0 : Int) ∧ (List.length a0 : Int) ≤ (List.length a0 : Int) ∧ (List.length a0 : Int) * 24 ≤ LIM then laws_toBarS_l0 k k a0 0 (List.replicate (List.length a0) (0, (0, 0))) (fun q_6 => some q_6) else none)
def laws_toBarS_l0_h : Head := ⟨[(0, (.val (.sl 112 (.st (.pr (.int .i64) (.pr (.int .i64) (.int .i64))))))), (3, (.ref 64000000 [])), (4, (.val (.int .i64)))], [(64000000, 110, (.st (.pr (.int .i64) (.pr (.int .i64) (.int .i64)))), false)], []⟩
def laws_toBarS_l0_x0 : Head := ⟨[(3, (.ref 64000000 []))], [(64000000, 110, (.st (.pr (.int .i64) (.pr (.int .i64) (.int .i64)))), false)], []⟩
def laws_toBarS_l0_F (k n : Nat) (x : laws_toBarS_l0_h.T) (kx : Nat → St → Option (List (Int × Int × Int))) : Option (List (Int × Int × Int)) := laws_toBarS_l0 k n x.1.1 x.1.2.2.1 x.2.1.1 (fun (q_6 : List (Int × Int × Int)) => kx 0 (laws_toBarS_l0_x0.fill (((), ()), (q_6, ()), ())))
def laws_toBarS_O (k : Nat) : Oracles (List (Int × Int × Int)) := ⟨fun n => bif Nat.beq n 3 then some (fun σ kx => laws_toBarS_l0_h.get σ fun x => laws_toBarS_l0_F k k x kx) else none, fun _ => none⟩
def fe_laws_toBarS (k : Nat) : FE := ⟨(.sl 112 (.st (.pr (.int .i64) (.pr (.int .i64) (.int .i64))))), 1, (.sl 110 (.st (.pr (.int .i64) (.pr (.int .i64) (.int .i64))))), fun x => laws_toBarS k x⟩
theorem laws_toBarS_l0_ok (k : Nat) : LoopOK (mkEnv ti [(93, fe_laws_toBar)] (lk []) pins0 pinB0) (laws_toBarS_O k) (rdC (mkEnv ti [(93, fe_laws_toBar)] (lk []) pins0 pinB0) [.tmp 2] (.sl 110 (.st (.pr (.int .i64) (.pr (.int .i64) (.int .i64)))))) ((loopsOf (codeOf Try.f47)).getD 0 .skip) (fun σ kx => laws_toBarS_l0_h.get σ fun x => laws_toBarS_l0_F k k x kx) := by
  refine ⟨laws_toBarS_l0_h, [(0, laws_toBarS_l0_x0)], fun n x kx => laws_toBarS_l0_F k n x kx, k, by kernel_rfl, by kernel_rfl, fun x kx => by kernel_rfl, ?_, fun σ kx => rfl⟩
  rintro n ⟨⟨a0, ⟨⟩, i4, ⟨⟩⟩, ⟨q_1, ⟨⟩⟩, ⟨⟩⟩ kx
  kernel_rfl
theorem ok_laws_toBarS (k : Nat) : FnOK Try.prog 47 (fe_laws_toBarS k) := by
  refine closed_ok (tab := [(93, fe_laws_toBar)]) (l := []) ti_ok ti_ht mix (List.forall_mem_cons.2 ⟨ok_laws_toBar, (List.forall_mem_nil _)⟩) (List.forall_mem_nil _) ⟨⟨Try.f47, (codeOf Try.f47), [.tmp 2], (laws_toBarS_O k), by kernel_rfl, by kernel_rfl, by kernel_rfl, by kernel_rfl, rfl, by decide, ⟨by kernel_rfl, ?_, ?_⟩, ?_⟩⟩
  · refine loops_of (n := 1) (by kernel_rfl) fun i hi => ?_
    match i, hi with
    | 0, _ => exact loop_of (by kernel_rfl) (laws_toBarS_l0_ok k)
    | n + 1, hi => omega
  · exact no_cuts (by kernel_rfl)
  · rintro a0
    kernel_rfl
/- 123 loop.example/g01005/spec.l05Dimension -/
def spec_l05Dimension (n0 : Int) : Option Bool := (spec_l00In n0 0 3).bind fun r_1 => some r_1
def fe_spec_l05Dimension : FE := ⟨(.int .i64), 1, .bool, fun x => spec_l05Dimension x⟩
theorem ok_spec_l05Dimension : FnOK Try.prog 123 (fe_spec_l05Dimension) := by
  refine closed_ok (tab := [(86, fe_spec_l00In)]) (l := []) ti_ok ti_ht mix (List.forall_mem_cons.2 ⟨ok_spec_l00In, (List.forall_mem_nil _)⟩) (List.forall_mem_nil _) ⟨⟨Try.f123, (codeOf Try.f123), [.tmp 2], (LOn Bool), by kernel_rfl, by kernel_rfl, by kernel_rfl, by kernel_rfl, rfl, by decide, ⟨by kernel_rfl, ?_, ?_⟩, ?_⟩⟩
  · exact no_loops (by kernel_rfl)
  · exact no_cuts (by kernel_rfl)
  · rintro n0
    kernel_rfl
/- 124 loop.example/g01005/spec.l21Time -/
def spec_l21Time (t0 : Int) : Option Bool := (spec_l00In t0 0 1000).bind fun r_1 => some r_1
def fe_spec_l21Time : FE := ⟨(.int .i64), 1, .bool, fun x => spec_l21Time x⟩
theorem ok_spec_l21Time : FnOK Try.prog 124 (fe_spec_l21Time) := by
  refine closed_ok (tab := [(86, fe_spec_l00In)]) (l := []) ti_ok ti_ht mix (List.forall_mem_cons.2 ⟨ok_spec_l00In, (List.forall_mem_nil _)⟩) (List.forall_mem_nil _) ⟨⟨Try.f124, (codeOf Try.f124), [.tmp 2], (LOn Bool), by kernel_rfl, by kernel_rfl, by kernel_rfl, by kernel_rfl, rfl, by decide, ⟨by kernel_rfl, ?_, ?_⟩, ?_⟩⟩
  · exact no_loops (by kernel_rfl)
  · exact no_cuts (by kernel_rfl)
  · rintro t0
    kernel_rfl
/- 125 loop.example/g01005/spec.l21Before -/
def spec_l21Before (a0 : Int × Int × Int) (b1 : Int × Int × Int) : Option Bool := (if (!(decide (a0.1 = b1.1))) = true then some (decide (a0.1 < b1.1)) else (if (!(decide (a0.2.1 = b1.2.1))) = true then some (decide (a0.2.1 < b1.2.1)) else (if (!(decide (a0.2.2 = (-1)))) = true then (if (decide (b1.2.2 = (-1))) = true then some true else some (decide (a0.2.2 < b1.2.2))) else some false)))
def fe_spec_l21Before : FE := ⟨(.pr (.ptr (.st (.pr (.int .i64) (.pr (.int .i64) (.int .i64))))) (.ptr (.st (.pr (.int .i64) (.pr (.int .i64) (.int .i64)))))), 1, .bool, fun x => spec_l21Before x.1 x.2⟩
theorem ok_spec_l21Before : FnOK Try.prog 125 (fe_spec_l21Before) := by
  refine closed_ok (tab := []) (l := []) ti_ok ti_ht mix (List.forall_mem_nil _) (List.forall_mem_nil _) ⟨⟨Try.f125, (codeOf Try.f125), [.tmp 4], (LOn Bool), by kernel_rfl, by kernel_rfl, by kernel_rfl, by kernel_rfl, rfl, by decide, ⟨by kernel_rfl, ?_, ?_⟩, ?_⟩⟩
  · exact no_loops (by kernel_rfl)
  · exact no_cuts (by kernel_rfl)
  · rintro ⟨a0, b1⟩
    kernel_rfl
/- 92 loop.example/g01005/spec.l21List -/
def spec_l21List_l0 (k : Nat) : Nat → (List (Int × Int × Int)) → Int → ((List (Int × Int × Int)) → Option Bool) → Option Bool
  | 0, _, _, _ => none
  | n + 1, list0, i3, e_0 => (if (decide (i3 < (List.length list0 : Int))) = true then (if 0 ≤ i3 then (list0[i3.toNat]?).bind fun y_1 => (spec_l05Dimension y_1.1).bind fun r_2 => (if (!r_2) = true then some false else (spec_l21Time y_1.2.1).bind fun r_3 => (if (!r_3) = true then some false else (if (!(decide (y_1.2.2 = (-1)))) = true then (if (decide (y_1.2.2 ≤ y_1.2.1)) = true then some false else (spec_l21Time y_1.2.2).bind fun r_4 => (if (!r_4) = true then some false else (if (decide (0 < i3)) = true then (if 0 ≤ (w_i64 (i3 - 1)) then (list0[(w_i64 (i3 - 1)).toNat]?).bind fun y_5 => (spec_l21Before y_1 y_5).bind fun r_6 => (if r_6 = true then some false else spec_l21List_l0 k n list0 (w_i64 (i3 + 1)) e_0) else none) else spec_l21List_l0 k n list0 (w_i64 (i3 + 1)) e_0))) else (if (decide (0 < i3)) = true then (if 0 ≤ (w_i64 (i3 - 1)) then (list0[(w_i64 (i3 - 1)).toNat]?).bind fun y_7 => (spec_l21Before y_1 y_7).bind fun r_8 => (if r_8 = true then some false else spec_l21List_l0 k n list0 (w_i64 (i3 + 1)) e_0) else none) else spec_l21List_l0 k n list0 (w_i64 (i3 + 1)) e_0)))) else none) else e_0 list0)
def spec_l21List (k : Nat) (list0 : List (Int × Int × Int)) : Option Bool := spec_l21List_l0 k k list0 0 (fun list_9 => some (decide ((List.length list_9 : Int) ≤ 24)))
def spec_l21List_l0_h : Head := ⟨[(0, (.val (.sl 110 (.st (.pr (.int .i64) (.pr (.int .i64) (.int .i64))))))), (3, (.val (.int .i64)))], [], []⟩
def spec_l21List_l0_x0 : Head := ⟨[(0, (.val (.sl 110 (.st (.pr (.int .i64) (.pr (.int .i64) (.int .i64)))))))], [], []⟩
def spec_l21List_l0_F (k n : Nat) (x : spec_l21List_l0_h.T) (kx : Nat → St → Option Bool) : Option Bool := spec_l21List_l0 k n x.1.1 x.1.2.1 (fun (list0 : List (Int × Int × Int)) => kx 0 (spec_l21List_l0_x0.fill ((list0, ()), (), ())))
def spec_l21List_O (k : Nat) : Oracles Bool := ⟨fun n => bif Nat.beq n 2 then some (fun σ kx => spec_l21List_l0_h.get σ fun x => spec_l21List_l0_F k k x kx) else none, fun _ => none⟩
def fe_spec_l21List (k : Nat) : FE := ⟨(.sl 110 (.st (.pr (.int .i64) (.pr (.int .i64) (.int .i64))))), 1, .bool, fun x => spec_l21List k x⟩
theorem spec_l21List_l0_ok (k : Nat) : LoopOK (mkEnv ti [(123, fe_spec_l05Dimension), (124, fe_spec_l21Time), (125, fe_spec_l21Before)] (lk []) pins0 pinB0) (spec_l21List_O k) (rdC (mkEnv ti [(123, fe_spec_l05Dimension), (124, fe_spec_l21Time), (125, fe_spec_l21Before)] (lk []) pins0 pinB0) [.tmp 2] .bool) ((loopsOf (codeOf Try.f92)).getD 0 .skip) (fun σ kx => spec_l21List_l0_h.get σ fun x => spec_l21List_l0_F k k x kx) := by
  refine ⟨spec_l21List_l0_h, [(0, spec_l21List_l0_x0)], fun n x kx => spec_l21List_l0_F k n x kx, k, by kernel_rfl, by kernel_rfl, fun x kx => by kernel_rfl, ?_, fun σ kx => rfl⟩
  rintro n ⟨⟨list0, i3, ⟨⟩⟩, ⟨⟩, ⟨⟩⟩ kx
  kernel_rfl
theorem ok_spec_l21List (k : Nat) : FnOK Try.prog 92 (fe_spec_l21List k) := by
  refine closed_ok (tab := [(123, fe_spec_l05Dimension), (124, fe_spec_l21Time), (125, fe_spec_l21Before)]) (l := []) ti_ok ti_ht mix (List.forall_mem_cons.2 ⟨ok_spec_l05Dimension, (List.forall_mem_cons.2 ⟨ok_spec_l21Time, (List.forall_mem_cons.2 ⟨ok_spec_l21Before, (List.forall_mem_nil _)⟩)⟩)⟩) (List.forall_mem_nil _) ⟨⟨Try.f92, (codeOf Try.f92), [.tmp 2], (spec_l21List_O k), by kernel_rfl, by kernel_rfl, by kernel_rfl, by kernel_rfl, rfl, by decide, ⟨by kernel_rfl, ?_, ?_⟩, ?_⟩⟩
  · refine loops_of (n := 1) (by kernel_rfl) fun i hi => ?_
    match i, hi with
    | 0, _ => exact loop_of (by kernel_rfl) (spec_l21List_l0_ok k)
    | n + 1, hi => omega
  · exact no_cuts (by kernel_rfl)
  · rintro list0
    kernel_rfl
/- 46 loop.example/g01005/spec.BarsPicture -/
def spec_BarsPicture_l1 (k : Nat) : Nat → (List (Int × Int × Int)) → Int → Int → (List UInt8) → Int → (List (List UInt8)) → ((List (Int × Int × Int)) → Int → Int → (List UInt8) → (List (List UInt8)) → Option (List (List UInt8) × Int)) → Option (List (List UInt8) × Int)
  | 0, _, _, _, _, _, _, _ => none
  | n + 1, list0, end1, i7, line8, t9, q_4, e_2 => (if (decide (t9 ≤ end1)) = true then (if 0 ≤ i7 then (list0[i7.toNat]?).bind fun y_5 => (if (decide (y_5.2.1 ≤ t9)) = true then (if 0 ≤ i7 then (list0[i7.toNat]?).bind fun y_6 => (if (decide (y_6.2.2 = (-1))) = true then (if (decide (t9 = end1)) = true then (if 0 ≤ i7 then (list0[i7.toNat]?).bind fun y_7 => (if (decide (y_7.2.2 = (-1))) = true then (if line8.length + [62].length ≤ 9223372036854775807 then spec_BarsPicture_l1 k n list0 end1 i7 (line8 ++ [62]) (w_i64 (t9 + 1)) q_4 e_2 else none) else (if line8.length + [61].length ≤ 9223372036854775807 then spec_BarsPicture_l1 k n list0 end1 i7 (line8 ++ [61]) (w_i64 (t9 + 1)) q_4 e_2 else none)) else none) else (if line8.length + [61].length ≤ 9223372036854775807 then spec_BarsPicture_l1 k n list0 end1 i7 (line8 ++ [61]) (w_i64 (t9 + 1)) q_4 e_2 else none)) else (if 0 ≤ i7 then (list0[i7.toNat]?).bind fun y_8 => (if (decide (t9 < y_8.2.2)) = true then (if (decide (t9 = end1)) = true then (if 0 ≤ i7 then (list0[i7.toNat]?).bind fun y_9 => (if (decide (y_9.2.2 = (-1))) = true then (if line8.length + [62].length ≤ 9223372036854775807 then spec_BarsPicture_l1 k n list0 end1 i7 (line8 ++ [62]) (w_i64 (t9 + 1)) q_4 e_2 else none) else (if line8.length + [61].length ≤ 9223372036854775807 then spec_BarsPicture_l1 k n list0 end1 i7 (line8 ++ [61]) (w_i64 (t9 + 1)) q_4 e_2 else none)) else none) else (if line8.length + [61].length ≤ 9223372036854775807 then spec_BarsPicture_l1 k n list0 end1 i7 (line8 ++ [61]) (w_i64 (t9 + 1)) q_4 e_2 else none)) else (if (decide (t9 = end1)) = true then (if line8.length + [46].length ≤ 9223372036854775807 then spec_BarsPicture_l1 k n list0 end1 i7 (line8 ++ [46]) (w_i64 (t9 + 1)) q_4 e_2 else none) else (if line8.length + [46].length ≤ 9223372036854775807 then spec_BarsPicture_l1 k n list0 end1 i7 (line8 ++ [46]) (w_i64 (t9 + 1)) q_4 e_2 else none))) else none)) else none) else (if (decide (t9 = end1)) = true then (if line8.length + [46].length ≤ 9223372036854775807 then spec_BarsPicture_l1 k n list0 end1 i7 (line8 ++ [46]) (w_i64 (t9 + 1)) q_4 e_2 else none) else (if line8.length + [46].length ≤ 9223372036854775807 then spec_BarsPicture_l1 k n list0 end1 i7 (line8 ++ [46]) (w_i64 (t9 + 1)) q_4 e_2 else none))) else none) else e_2 list0 end1 i7 line8 q_4)
def spec_BarsPicture_l0 (k : Nat) : Nat → (List (Int × Int × Int)) → Int → Int → (List (List UInt8)) → ((List (List UInt8)) → Option (List (List UInt8) × Int)) → Option (List (List UInt8) × Int)
  | 0, _, _, _, _, _ => none
  | n + 1, list0, end1, i7, q_3, e_0 => (if (decide (i7 < (List.length list0 : Int))) = true then spec_BarsPicture_l1 k k list0 end1 i7 [] 0 q_3 (fun list_4 end_5 i_6 line_7 q_8 => (if (q_8.length + [line_7].length) * 16 ≤ LIM then spec_BarsPicture_l0 k n list_4 end_5 (w_i64 (i_6 + 1)) (q_8 ++ [line_7]) e_0 else none)) else e_0 q_3)
def spec_BarsPicture (k : Nat) (list0 : List (Int × Int × Int)) (end1 : Int) : Option (List (List UInt8) × Int) := (spec_l21List k list0).bind fun r_1 => (if (!r_1) = true then some ([], 1) else (spec_l00In end1 0 79).bind fun r_2 => (if (!r_2) = true then some ([], 2) else spec_BarsPicture_l0 k k list0 end1 0 [] (fun q_9 => (spec_l30Done_g k q_9).bind fun y_10 => some (y_10.2.1.1, y_10.1.1.2.1))))
def spec_BarsPicture_l1_h : Head := ⟨[(0, (.val (.sl 110 (.st (.pr (.int .i64) (.pr (.int .i64) (.int .i64))))))), (1, (.val (.int .i64))), (6, (.ref 64000000 [])), (7, (.val (.int .i64))), (8, (.val .str)), (9, (.val (.int .i64)))], [(64000000, 9, .str, false)], []⟩
def spec_BarsPicture_l1_x2 : Head := ⟨[(0, (.val (.sl 110 (.st (.pr (.int .i64) (.pr (.int .i64) (.int .i64))))))), (1, (.val (.int .i64))), (6, (.ref 64000000 [])), (7, (.val (.int .i64))), (8, (.val .str))], [(64000000, 9, .str, false)], []⟩
def spec_BarsPicture_l1_F (k n : Nat) (x : spec_BarsPicture_l1_h.T) (kx : Nat → St → Option (List (List UInt8) × Int)) : Option (List (List UInt8) × Int) := spec_BarsPicture_l1 k n x.1.1 x.1.2.1 x.1.2.2.2.1 x.1.2.2.2.2.1 x.1.2.2.2.2.2.1 x.2.1.1 (fun (list0 : List (Int × Int × Int)) (end1 : Int) (i7 : Int) (line8 : List UInt8) (q_10 : List (List UInt8)) => kx 2 (spec_BarsPicture_l1_x2.fill ((list0, end1, (), i7, line8, ()), (q_10, ()), ())))
def spec_BarsPicture_l0_h : Head := ⟨[(0, (.val (.sl 110 (.st (.pr (.int .i64) (.pr (.int .i64) (.int .i64))))))), (1, (.val (.int .i64))), (6, (.ref 64000000 [])), (7, (.val (.int .i64)))], [(64000000, 9, .str, false)], []⟩
def spec_BarsPicture_l0_x0 : Head := ⟨[(6, (.ref 64000000 []))], [(64000000, 9, .str, false)], []⟩
def spec_BarsPicture_l0_F (k n : Nat) (x : spec_BarsPicture_l0_h.T) (kx : Nat → St → Option (List (List UInt8) × Int)) : Option (List (List UInt8) × Int) := spec_BarsPicture_l0 k n x.1.1 x.1.2.1 x.1.2.2.2.1 x.2.1.1 (fun (q_15 : List (List UInt8)) => kx 0 (spec_BarsPicture_l0_x0.fill (((), ()), (q_15, ()), ())))
def spec_BarsPicture_O (k : Nat) : Oracles (List (List UInt8) × Int) := ⟨fun n => bif Nat.beq n 11 then some (fun σ kx => spec_BarsPicture_l1_h.get σ fun x => spec_BarsPicture_l1_F k k x kx) else bif Nat.beq n 7 then some (fun σ kx => spec_BarsPicture_l0_h.get σ fun x => spec_BarsPicture_l0_F k k x kx) else none, fun _ => none⟩
def fe_spec_BarsPicture (k : Nat) : FE := ⟨(.pr (.sl 110 (.st (.pr (.int .i64) (.pr (.int .i64) (.int .i64))))) (.int .i64)), 2, (.pr (.sl 9 .str) (.int .i64)), fun x => spec_BarsPicture k x.1 x.2⟩
theorem spec_BarsPicture_l1_ok (k : Nat) : LoopOK (mkEnv ti [(92, fe_spec_l21List k), (86, fe_spec_l00In)] (lk [(76, 79, oc_spec_l30Done_g k)]) pins0 pinB0) (spec_BarsPicture_O k) (rdC (mkEnv ti [(92, fe_spec_l21List k), (86, fe_spec_l00In)] (lk [(76, 79, oc_spec_l30Done_g k)]) pins0 pinB0) [.tmp 4, .tmp 5] (.pr (.sl 9 .str) (.int .i64))) ((loopsOf (codeOf Try.f46)).getD 1 .skip) (fun σ kx => spec_BarsPicture_l1_h.get σ fun x => spec_BarsPicture_l1_F k k x kx) := by
  refine ⟨spec_BarsPicture_l1_h, [(2, spec_BarsPicture_l1_x2)], fun n x kx => spec_BarsPicture_l1_F k n x kx, k, by kernel_rfl, by kernel_rfl, fun x kx => by kernel_rfl, ?_, fun σ kx => rfl⟩
  rintro n ⟨⟨list0, end1, ⟨⟩, i7, line8, t9, ⟨⟩⟩, ⟨q_4, ⟨⟩⟩, ⟨⟩⟩ kx
  kernel_rfl
theorem spec_BarsPicture_l0_ok (k : Nat) : LoopOK (mkEnv ti [(92, fe_spec_l21List k), (86, fe_spec_l00In)] (lk [(76, 79, oc_spec_l30Done_g k)]) pins0 pinB0) (spec_BarsPicture_O k) (rdC (mkEnv ti [(92, fe_spec_l21List k), (86, fe_spec_l00In)] (lk [(76, 79, oc_spec_l30Done_g k)]) pins0 pinB0) [.tmp 4, .tmp 5] (.pr (.sl 9 .str) (.int .i64))) ((loopsOf (codeOf Try.f46)).getD 0 .skip) (fun σ kx => spec_BarsPicture_l0_h.get σ fun x => spec_BarsPicture_l0_F k k x kx) := by
  refine ⟨spec_BarsPicture_l0_h, [(0, spec_BarsPicture_l0_x0)], fun n x kx => spec_BarsPicture_l0_F k n x kx, k, by kernel_rfl, by kernel_rfl, fun x kx => by kernel_rfl, ?_, fun σ kx => rfl⟩
  rintro n ⟨⟨list0, end1, ⟨⟩, i7, ⟨⟩⟩, ⟨q_3, ⟨⟩⟩, ⟨⟩⟩ kx
  kernel_rfl
theorem ok_spec_BarsPicture (k : Nat) : FnOK Try.prog 46 (fe_spec_BarsPicture k) := by
  refine closed_ok (tab := [(92, fe_spec_l21List k), (86, fe_spec_l00In)]) (l := [(76, 79, oc_spec_l30Done_g k)]) ti_ok ti_ht mix (List.forall_mem_cons.2 ⟨ok_spec_l21List k, (List.forall_mem_cons.2 ⟨ok_spec_l00In, (List.forall_mem_nil _)⟩)⟩) (List.forall_mem_cons.2 ⟨ok_spec_l30Done_g k, (List.forall_mem_nil _)⟩) ⟨⟨Try.f46, (codeOf Try.f46), [.tmp 4, .tmp 5], (spec_BarsPicture_O k), by kernel_rfl, by kernel_rfl, by kernel_rfl, by kernel_rfl, rfl, by decide, ⟨by kernel_rfl, ?_, ?_⟩, ?_⟩⟩
  · refine loops_of (n := 2) (by kernel_rfl) fun i hi => ?_
    match i, hi with
    | 0, _ => exact loop_of (by kernel_rfl) (spec_BarsPicture_l0_ok k)
    | 1, _ => exact loop_of (by kernel_rfl) (spec_BarsPicture_l1_ok k)
    | n + 2, hi => omega
  · exact no_cuts (by kernel_rfl)
  · rintro ⟨list0, end1⟩
    kernel_rfl
/- 126 loop.example/g01005/impl.isDimension -/
def impl_isDimension (k0 : Int) : Option Bool := (impl_within k0 0 3).bind fun r_1 => some r_1
def fe_impl_isDimension : FE := ⟨(.int .i64), 1, .bool, fun x => impl_isDimension x⟩
theorem ok_impl_isDimension : FnOK Try.prog 126 (fe_impl_isDimension) := by
  refine closed_ok (tab := [(88, fe_impl_within)]) (l := []) ti_ok ti_ht mix (List.forall_mem_cons.2 ⟨ok_impl_within, (List.forall_mem_nil _)⟩) (List.forall_mem_nil _) ⟨⟨Try.f126, (codeOf Try.f126), [.tmp 2], (LOn Bool), by kernel_rfl, by kernel_rfl, by kernel_rfl, by kernel_rfl, rfl, by decide, ⟨by kernel_rfl, ?_, ?_⟩, ?_⟩⟩
  · exact no_loops (by kernel_rfl)
  · exact no_cuts (by kernel_rfl)
  · rintro k0
    kernel_rfl
/- 127 loop.example/g01005/impl.isTime -/
def impl_isTime (t0 : Int) : Option Bool := (impl_within t0 0 1000).bind fun r_1 => some r_1
def fe_impl_isTime : FE := ⟨(.int .i64), 1, .bool, fun x => impl_isTime x⟩
theorem ok_impl_isTime : FnOK Try.prog 127 (fe_impl_isTime) := by
  refine closed_ok (tab := [(88, fe_impl_within)]) (l := []) ti_ok ti_ht mix (List.forall_mem_cons.2 ⟨ok_impl_within, (List.forall_mem_nil _)⟩) (List.forall_mem_nil _) ⟨⟨Try.f127, (codeOf Try.f127), [.tmp 2], (LOn Bool), by kernel_rfl, by kernel_rfl, by kernel_rfl, by kernel_rfl, rfl, by decide, ⟨by kernel_rfl, ?_, ?_⟩, ?_⟩⟩
  · exact no_loops (by kernel_rfl)
  · exact no_cuts (by kernel_rfl)
  · rintro t0
    kernel_rfl
/- 178 cmp.isNaN[int64] -/
def cmp_isNaN_int64 (x0 : Int) : Option Bool := some (!(decide (x0 = x0)))
def fe_cmp_isNaN_int64 : FE := ⟨(.int .i64), 1, .bool, fun x => cmp_isNaN_int64 x⟩
theorem ok_cmp_isNaN_int64 : FnOK Try.prog 178 (fe_cmp_isNaN_int64) := by
  refine closed_ok (tab := []) (l := []) ti_ok ti_ht mix (List.forall_mem_nil _) (List.forall_mem_nil _) ⟨⟨Try.f178, (codeOf Try.f178), [.tmp 2], (LOn Bool), by kernel_rfl, by kernel_rfl, by kernel_rfl, by kernel_rfl, rfl, by decide, ⟨by kernel_rfl, ?_, ?_⟩, ?_⟩⟩
  · exact no_loops (by kernel_rfl)
  · exact no_cuts (by kernel_rfl)
  · rintro x0
    kernel_rfl
/- 155 cmp.Compare[int64] -/
def cmp_Compare_int64 (x0 : Int) (y1 : Int) : Option Int := (cmp_isNaN_int64 x0).bind fun r_1 => (cmp_isNaN_int64 y1).bind fun r_2 => (if r_1 = true then (if r_2 = true then some 0 else some (-1)) else (if r_2 = true then some 1 else (if (decide (x0 < y1)) = true then some (-1) else (if (decide (y1 < x0)) = true then some 1 else some 0))))
def fe_cmp_Compare_int64 : FE := ⟨(.pr (.int .i64) (.int .i64)), 1, (.int .i64), fun x => cmp_Compare_int64 x.1 x.2⟩
theorem ok_cmp_Compare_int64 : FnOK Try.prog 155 (fe_cmp_Compare_int64) := by
  refine closed_ok (tab := [(178, fe_cmp_isNaN_int64)]) (l := []) ti_ok ti_ht mix (List.forall_mem_cons.2 ⟨ok_cmp_isNaN_int64, (List.forall_mem_nil _)⟩) (List.forall_mem_nil _) ⟨⟨Try.f155, (codeOf Try.f155), [.tmp 4], (LOn Int), by kernel_rfl, by kernel_rfl, by kernel_rfl, by kernel_rfl, rfl, by decide, ⟨by kernel_rfl, ?_, ?_⟩, ?_⟩⟩
  · exact no_loops (by kernel_rfl)
  · exact no_cuts (by kernel_rfl)
  · rintro ⟨x0, y1⟩
    kernel_rfl
/- 156 loop.example/g01005/impl.end -/
def impl_end (b0 : Int × Int × Int) : Option Int := (if (decide (b0.2.2 = (-1))) = true then some 1001 else some b0.2.2)
def fe_impl_end : FE := ⟨(.st (.pr (.int .i64) (.pr (.int .i64) (.int .i64)))), 1, (.int .i64), fun x => impl_end x⟩
theorem ok_impl_end : FnOK Try.prog 156 (fe_impl_end) := by
  refine closed_ok (tab := []) (l := []) ti_ok ti_ht mix (List.forall_mem_nil _) (List.forall_mem_nil _) ⟨⟨Try.f156, (codeOf Try.f156), [.tmp 2], (LOn Int), by kernel_rfl, by kernel_rfl, by kernel_rfl, by kernel_rfl, rfl, by decide, ⟨by kernel_rfl, ?_, ?_⟩, ?_⟩⟩
  · exact no_loops (by kernel_rfl)
  · exact no_cuts (by kernel_rfl)
  · rintro b0
    kernel_rfl
/- 128 loop.example/g01005/impl.compareBars -/
def impl_compareBars (k : Nat) (a0 : Int × Int × Int) (b1 : Int × Int × Int) : Option Int := (cmp_Compare_int64 a0.1 b1.1).bind fun r_1 => (cmp_Compare_int64 a0.2.1 b1.2.1).bind fun r_2 => (impl_end a0).bind fun r_3 => (impl_end b1).bind fun r_4 => (cmp_Compare_int64 r_3 r_4).bind fun r_5 => (cmp_Or_int k [r_1, r_2, r_5]).bind fun r_6 => some r_6
def fe_impl_compareBars (k : Nat) : FE := ⟨(.pr (.st (.pr (.int .i64) (.pr (.int .i64) (.int .i64)))) (.st (.pr (.int .i64) (.pr (.int .i64) (.int .i64))))), 1, (.int .i64), fun x => impl_compareBars k x.1 x.2⟩
theorem ok_impl_compareBars (k : Nat) : FnOK Try.prog 128 (fe_impl_compareBars k) := by
  refine closed_ok (tab := [(155, fe_cmp_Compare_int64), (156, fe_impl_end), (112, fe_cmp_Or_int k)]) (l := []) ti_ok ti_ht mix (List.forall_mem_cons.2 ⟨ok_cmp_Compare_int64, (List.forall_mem_cons.2 ⟨ok_impl_end, (List.forall_mem_cons.2 ⟨ok_cmp_Or_int k, (List.forall_mem_nil _)⟩)⟩)⟩) (List.forall_mem_nil _) ⟨⟨Try.f128, (codeOf Try.f128), [.tmp 4], (LOn Int), by kernel_rfl, by kernel_rfl, by kernel_rfl, by kernel_rfl, rfl, by decide, ⟨by kernel_rfl, ?_, ?_⟩, ?_⟩⟩
  · exact no_loops (by kernel_rfl)
  · exact no_cuts (by kernel_rfl)
  · rintro ⟨a0, b1⟩
    kernel_rfl
/- 94 loop.example/g01005/impl.ValidBars -/
def impl_ValidBars_l0 (k : Nat) : Nat → (List (Int × Int × Int)) → (List (Int × Int × Int)) → Int → Int → ((List (Int × Int × Int)) → Option Bool) → Option Bool
  | 0, _, _, _, _, _ => none
  | n + 1, list0, x5, x6, x7, e_0 => (if (decide (x7 < x6)) = true then (if 0 ≤ x7 then (x5[x7.toNat]?).bind fun y_1 => (impl_isDimension y_1.1).bind fun r_2 => (if (!r_2) = true then some false else (impl_isTime y_1.2.1).bind fun r_3 => (if (!r_3) = true then some false else (if (!(decide (y_1.2.2 = (-1)))) = true then (impl_within y_1.2.2 (w_i64 (y_1.2.1 + 1)) 1000).bind fun r_4 => (if (!r_4) = true then some false else (if (decide (0 < x7)) = true then (if 0 ≤ (w_i64 (x7 - 1)) then (list0[(w_i64 (x7 - 1)).toNat]?).bind fun y_5 => (impl_compareBars k y_5 y_1).bind fun r_6 => (if (decide (0 < r_6)) = true then some false else impl_ValidBars_l0 k n list0 x5 x6 (w_i64 (x7 + 1)) e_0) else none) else impl_ValidBars_l0 k n list0 x5 x6 (w_i64 (x7 + 1)) e_0)) else (if (decide (0 < x7)) = true then (if 0 ≤ (w_i64 (x7 - 1)) then (list0[(w_i64 (x7 - 1)).toNat]?).bind fun y_7 => (impl_compareBars k y_7 y_1).bind fun r_8 => (if (decide (0 < r_8)) = true then some false else impl_ValidBars_l0 k n list0 x5 x6 (w_i64 (x7 + 1)) e_0) else none) else impl_ValidBars_l0 k n list0 x5 x6 (w_i64 (x7 + 1)) e_0)))) else none) else e_0 list0)
def impl_ValidBars (k : Nat) (list0 : List (Int × Int × Int)) : Option Bool := impl_ValidBars_l0 k k list0 list0 (List.length list0 : Int) 0 (fun list_9 => some (decide ((List.length list_9 : Int) ≤ 24)))
def impl_ValidBars_l0_h : Head := ⟨[(0, (.val (.sl 110 (.st (.pr (.int .i64) (.pr (.int .i64) (.int .i64))))))), (5, (.val (.sl 110 (.st (.pr (.int .i64) (.pr (.int .i64) (.int .i64))))))), (6, (.val (.int .i64))), (7, (.val (.int .i64)))], [], []⟩
def impl_ValidBars_l0_x0 : Head := ⟨[(0, (.val (.sl 110 (.st (.pr (.int .i64) (.pr (.int .i64) (.int .i64)))))))], [], []⟩
def impl_ValidBars_l0_F (k n : Nat) (x : impl_ValidBars_l0_h.T) (kx : Nat → St → Option Bool) : Option Bool := impl_ValidBars_l0 k n x.1.1 x.1.2.1 x.1.2.2.1 x.1.2.2.2.1 (fun (list0 : List (Int × Int × Int)) => kx 0 (impl_ValidBars_l0_x0.fill ((list0, ()), (), ())))
def impl_ValidBars_O (k : Nat) : Oracles Bool := ⟨fun n => bif Nat.beq n 2 then some (fun σ kx => impl_ValidBars_l0_h.get σ fun x => impl_ValidBars_l0_F k k x kx) else none, fun _ => none⟩
def fe_impl_ValidBars (k : Nat) : FE := ⟨(.sl 110 (.st (.pr (.int .i64) (.pr (.int .i64) (.int .i64))))), 1, .bool, fun x => impl_ValidBars k x⟩
theorem impl_ValidBars_l0_ok (k : Nat) : LoopOK (mkEnv ti [(126, fe_impl_isDimension), (127, fe_impl_isTime), (88, fe_impl_within), (128, fe_impl_compareBars k)] (lk []) pins0 pinB0) (impl_ValidBars_O k) (rdC (mkEnv ti [(126, fe_impl_isDimension), (127, fe_impl_isTime), (88, fe_impl_within), (128, fe_impl_compareBars k)] (lk []) pins0 pinB0) [.tmp 2] .bool) ((loopsOf (codeOf Try.f94)).getD 0 .skip) (fun σ kx => impl_ValidBars_l0_h.get σ fun x => impl_ValidBars_l0_F k k x kx) := by
  refine ⟨impl_ValidBars_l0_h, [(0, impl_ValidBars_l0_x0)], fun n x kx => impl_ValidBars_l0_F k n x kx, k, by kernel_rfl, by kernel_rfl, fun x kx => by kernel_rfl, ?_, fun σ kx => rfl⟩
  rintro n ⟨⟨list0, x5, x6, x7, ⟨⟩⟩, ⟨⟩, ⟨⟩⟩ kx
  kernel_rfl
theorem ok_impl_ValidBars (k : Nat) : FnOK Try.prog 94 (fe_impl_ValidBars k) := by
  refine closed_ok (tab := [(126, fe_impl_isDimension), (127, fe_impl_isTime), (88, fe_impl_within), (128, fe_impl_compareBars k)]) (l := []) ti_ok ti_ht mix (List.forall_mem_cons.2 ⟨ok_impl_isDimension, (List.forall_mem_cons.2 ⟨ok_impl_isTime, (List.forall_mem_cons.2 ⟨ok_impl_within, (List.forall_mem_cons.2 ⟨ok_impl_compareBars k, (List.forall_mem_nil _)⟩)⟩)⟩)⟩) (List.forall_mem_nil _) ⟨⟨Try.f94, (codeOf Try.f94), [.tmp 2], (impl_ValidBars_O k), by kernel_rfl, by kernel_rfl, by kernel_rfl, by kernel_rfl, rfl, by decide, ⟨by kernel_rfl, ?_, ?_⟩, ?_⟩⟩
  · refine loops_of (n := 1) (by kernel_rfl) fun i hi => ?_
    match i, hi with
    | 0, _ => exact loop_of (by kernel_rfl) (impl_ValidBars_l0_ok k)
    | n + 1, hi => omega
  · exact no_cuts (by kernel_rfl)
  · rintro list0
    kernel_rfl
/- 95 loop.example/g01005/impl.isForever -/
def impl_isForever (b0 : Int × Int × Int) : Option Bool := some (decide (b0.2.2 = (-1)))
def fe_impl_isForever : FE := ⟨(.st (.pr (.int .i64) (.pr (.int .i64) (.int .i64)))), 1, .bool, fun x => impl_isForever x⟩
theorem ok_impl_isForever : FnOK Try.prog 95 (fe_impl_isForever) := by
  refine closed_ok (tab := []) (l := []) ti_ok ti_ht mix (List.forall_mem_nil _) (List.forall_mem_nil _) ⟨⟨Try.f95, (codeOf Try.f95), [.tmp 2], (LOn Bool), by kernel_rfl, by kernel_rfl, by kernel_rfl, by kernel_rfl, rfl, by decide, ⟨by kernel_rfl, ?_, ?_⟩, ?_⟩⟩
  · exact no_loops (by kernel_rfl)
  · exact no_cuts (by kernel_rfl)
  · rintro b0
    kernel_rfl
end
end Go.Proofs.Ytkopnopjbaejjaa.Ev
