/- Functions of the program, as plain ones. No conditions. -/
import Derived.Test.YtpliblemabkikaaDoorG4
import Derived.KernelRfl
set_option linter.unusedVariables false
set_option maxRecDepth 100000
namespace Go.Proofs.YtpliblemabkikaaDoor.Ev
open Go.RowKit
noncomputable section
/- 47 slices.Contains[[]int64,int64] -/
def slices_Contains_int64 (k : Nat) (s0 : List Int) (v1 : Int) : Option Bool := (slices_Index_int64 k s0 v1).bind fun r_1 => some (decide (0 ≤ r_1))
def fe_slices_Contains_int64 (k : Nat) : FE := ⟨(.pr (.sl 2 (.int .i64)) (.int .i64)), 1, .bool, fun x => slices_Contains_int64 k x.1 x.2⟩
theorem ok_slices_Contains_int64 (k : Nat) : FnOK Tryd.prog 47 (fe_slices_Contains_int64 k) := by
  refine closed_ok (tab := [(62, fe_slices_Index_int64 k)]) (l := []) ti_ok ti_ht mix (List.forall_mem_cons.2 ⟨ok_slices_Index_int64 k, (List.forall_mem_nil _)⟩) (List.forall_mem_nil _) ⟨⟨Tryd.f47, (codeOf Tryd.f47), [.tmp 4], (LOn Bool), by kernel_rfl, by kernel_rfl, by kernel_rfl, by kernel_rfl, rfl, by decide, ⟨by kernel_rfl, ?_, ?_⟩, ?_⟩⟩
  · exact no_loops (by kernel_rfl)
  · exact no_cuts (by kernel_rfl)
  · rintro ⟨s0, v1⟩
    kernel_rfl
/- 23 loop.example/g01005/impl.FirstExtension -/
def impl_FirstExtension_l2 (k : Nat) : Nat → Int → Bool → Int → Int → Int → Int → Int → Int → (List (List Bool)) → (List Int) → (Int × List (List Int)) → (Int → Bool → Int → Int → Int → Int → (List (List Bool)) → (List Int) → (Int × List (List Int)) → Option (List Int × Int)) → Option (List Int × Int)
  | 0, _, _, _, _, _, _, _, _, _, _, _, _ => none
  | n + 1, x6, ready7, x15, x16, x19, x20, x28, x29, q_8, q_9, v_1, e_4 => (if (decide (x29 < x28)) = true then (if ready7 = true then (if (decide (x6 = x29)) = true then impl_FirstExtension_l2 k n x6 true x15 x16 x19 x20 x28 (w_i64 (x29 + 1)) q_8 q_9 v_1 e_4 else (if 0 ≤ x29 ∧ x29.toNat < List.length q_8 then (q_8[x29.toNat]?).bind fun y_10 => (q_8[x29.toNat]?).bind fun y_11 => (if 0 ≤ x6 ∧ x6.toNat < List.length y_11 then (q_8[x29.toNat]?).bind fun y_12 => (y_12[x6.toNat]?).bind fun y_13 => (if (!y_13) = true then impl_FirstExtension_l2 k n x6 true x15 x16 x19 x20 x28 (w_i64 (x29 + 1)) q_8 q_9 v_1 e_4 else (slices_Contains_int64 k q_9 x29).bind fun r_14 => impl_FirstExtension_l2 k n x6 r_14 x15 x16 x19 x20 x28 (w_i64 (x29 + 1)) q_8 q_9 v_1 e_4) else none) else none)) else impl_FirstExtension_l2 k n x6 false x15 x16 x19 x20 x28 (w_i64 (x29 + 1)) q_8 q_9 v_1 e_4) else e_4 x6 ready7 x15 x16 x19 x20 q_8 q_9 v_1)
def impl_FirstExtension_l1 (k : Nat) : Nat → Int → Int → Int → Int → (List (List Bool)) → (List Int) → (Int × List (List Int)) → (Int → Int → (List (List Bool)) → (List Int) → (Int × List (List Int)) → Option (List Int × Int)) → Option (List Int × Int)
  | 0, _, _, _, _, _, _, _, _ => none
  | n + 1, x15, x16, x19, x20, q_5, q_6, v_1, e_2 => (if (decide (x20 < x19)) = true then (slices_Contains_int64 k q_6 x20).bind fun r_7 => impl_FirstExtension_l2 k k x20 (!r_7) x15 x16 x19 x20 v_1.1 0 q_5 q_6 v_1 (fun x_8 ready_9 x_10 x_11 x_12 x_13 q_14 q_15 v_16 => (if ready_9 = true then (if (q_15.length + [x_8].length) * 8 ≤ LIM then e_2 x_10 x_11 q_14 (q_15 ++ [x_8]) v_16 else none) else impl_FirstExtension_l1 k n x_10 x_11 x_12 (w_i64 (x_13 + 1)) q_14 q_15 v_16 e_2)) else e_2 x15 x16 q_5 q_6 v_1)
def impl_FirstExtension_l0 (k : Nat) : Nat → Int → Int → (List (List Bool)) → (List Int) → (Int × List (List Int)) → ((List Int) → Option (List Int × Int)) → Option (List Int × Int)
  | 0, _, _, _, _, _, _ => none
  | n + 1, x15, x16, q_3, q_4, v_1, e_0 => (if (decide (x16 < x15)) = true then impl_FirstExtension_l1 k k x15 x16 v_1.1 0 q_3 q_4 v_1 (fun x_5 x_6 q_7 q_8 v_9 => impl_FirstExtension_l0 k n x_5 (w_i64 (x_6 + 1)) q_7 q_8 v_9 e_0) else e_0 q_4)
def impl_FirstExtension (k : Nat) (p0 : Int × List (List Int)) : Option (List Int × Int) := (impl_ValidPoset k p0).bind fun r_1 => (if (!r_1) = true then some ([], 1) else (impl_Poset_order k p0).bind fun r_2 => impl_FirstExtension_l0 k k p0.1 0 r_2 [] p0 (fun q_10 => some (q_10, 0)))
def impl_FirstExtension_l2_h : Head := ⟨[(1, (.bp 1 [] 0)), (4, (.ref 64000000 [])), (5, (.ref 64000001 [])), (6, (.val (.int .i64))), (7, (.val .bool)), (15, (.val (.int .i64))), (16, (.val (.int .i64))), (19, (.val (.int .i64))), (20, (.val (.int .i64))), (28, (.val (.int .i64))), (29, (.val (.int .i64)))], [(64000000, 43, (.sl 4 .bool), false), (64000001, 2, (.int .i64), false)], [(1, 29, (.val (.st (.pr (.int .i64) (.sl 41 (.sl 2 (.int .i64)))))))]⟩
def impl_FirstExtension_l2_x4 : Head := ⟨[(1, (.bp 1 [] 0)), (4, (.ref 64000000 [])), (5, (.ref 64000001 [])), (6, (.val (.int .i64))), (7, (.val .bool)), (15, (.val (.int .i64))), (16, (.val (.int .i64))), (19, (.val (.int .i64))), (20, (.val (.int .i64)))], [(64000000, 43, (.sl 4 .bool), false), (64000001, 2, (.int .i64), false)], [(1, 29, (.val (.st (.pr (.int .i64) (.sl 41 (.sl 2 (.int .i64)))))))]⟩
def impl_FirstExtension_l2_F (k n : Nat) (x : impl_FirstExtension_l2_h.T) (kx : Nat → St → Option (List Int × Int)) : Option (List Int × Int) := impl_FirstExtension_l2 k n x.1.2.2.2.1 x.1.2.2.2.2.1 x.1.2.2.2.2.2.1 x.1.2.2.2.2.2.2.1 x.1.2.2.2.2.2.2.2.1 x.1.2.2.2.2.2.2.2.2.1 x.1.2.2.2.2.2.2.2.2.2.1 x.1.2.2.2.2.2.2.2.2.2.2.1 x.2.1.1 x.2.1.2.1 x.2.2.1 (fun (x6 : Int) (ready7 : Bool) (x15 : Int) (x16 : Int) (x19 : Int) (x20 : Int) (q_15 : List (List Bool)) (q_16 : List Int) (v_1 : Int × List (List Int)) => kx 4 (impl_FirstExtension_l2_x4.fill (((), (), (), x6, ready7, x15, x16, x19, x20, ()), (q_15, q_16, ()), (v_1, ()))))
def impl_FirstExtension_l1_h : Head := ⟨[(1, (.bp 1 [] 0)), (4, (.ref 64000000 [])), (5, (.ref 64000001 [])), (15, (.val (.int .i64))), (16, (.val (.int .i64))), (19, (.val (.int .i64))), (20, (.val (.int .i64)))], [(64000000, 43, (.sl 4 .bool), false), (64000001, 2, (.int .i64), false)], [(1, 29, (.val (.st (.pr (.int .i64) (.sl 41 (.sl 2 (.int .i64)))))))]⟩
def impl_FirstExtension_l1_x2 : Head := ⟨[(1, (.bp 1 [] 0)), (4, (.ref 64000000 [])), (5, (.ref 64000001 [])), (15, (.val (.int .i64))), (16, (.val (.int .i64)))], [(64000000, 43, (.sl 4 .bool), false), (64000001, 2, (.int .i64), false)], [(1, 29, (.val (.st (.pr (.int .i64) (.sl 41 (.sl 2 (.int .i64)))))))]⟩
def impl_FirstExtension_l1_F (k n : Nat) (x : impl_FirstExtension_l1_h.T) (kx : Nat → St → Option (List Int × Int)) : Option (List Int × Int) := impl_FirstExtension_l1 k n x.1.2.2.2.1 x.1.2.2.2.2.1 x.1.2.2.2.2.2.1 x.1.2.2.2.2.2.2.1 x.2.1.1 x.2.1.2.1 x.2.2.1 (fun (x15 : Int) (x16 : Int) (q_24 : List (List Bool)) (q_25 : List Int) (v_1 : Int × List (List Int)) => kx 2 (impl_FirstExtension_l1_x2.fill (((), (), (), x15, x16, ()), (q_24, q_25, ()), (v_1, ()))))
def impl_FirstExtension_l0_h : Head := ⟨[(1, (.bp 1 [] 0)), (4, (.ref 64000000 [])), (5, (.ref 64000001 [])), (15, (.val (.int .i64))), (16, (.val (.int .i64)))], [(64000000, 43, (.sl 4 .bool), false), (64000001, 2, (.int .i64), false)], [(1, 29, (.val (.st (.pr (.int .i64) (.sl 41 (.sl 2 (.int .i64)))))))]⟩
def impl_FirstExtension_l0_x0 : Head := ⟨[(5, (.ref 64000000 []))], [(64000000, 2, (.int .i64), false)], []⟩
def impl_FirstExtension_l0_F (k n : Nat) (x : impl_FirstExtension_l0_h.T) (kx : Nat → St → Option (List Int × Int)) : Option (List Int × Int) := impl_FirstExtension_l0 k n x.1.2.2.2.1 x.1.2.2.2.2.1 x.2.1.1 x.2.1.2.1 x.2.2.1 (fun (q_22 : List Int) => kx 0 (impl_FirstExtension_l0_x0.fill (((), ()), (q_22, ()), ())))
def impl_FirstExtension_O (k : Nat) : Oracles (List Int × Int) := ⟨fun n => bif Nat.beq n 12 then some (fun σ kx => impl_FirstExtension_l2_h.get σ fun x => impl_FirstExtension_l2_F k k x kx) else bif Nat.beq n 8 then some (fun σ kx => impl_FirstExtension_l1_h.get σ fun x => impl_FirstExtension_l1_F k k x kx) else bif Nat.beq n 6 then some (fun σ kx => impl_FirstExtension_l0_h.get σ fun x => impl_FirstExtension_l0_F k k x kx) else none, fun _ => none⟩
def fe_impl_FirstExtension (k : Nat) : FE := ⟨(.st (.pr (.int .i64) (.sl 41 (.sl 2 (.int .i64))))), 2, (.pr (.sl 2 (.int .i64)) (.int .i64)), fun x => impl_FirstExtension k x⟩
theorem impl_FirstExtension_l2_ok (k : Nat) : LoopOK (mkEnv ti [(22, fe_impl_ValidPoset k), (46, fe_impl_Poset_order k), (47, fe_slices_Contains_int64 k)] (lk []) pins0 pinB0) (impl_FirstExtension_O k) (rdC (mkEnv ti [(22, fe_impl_ValidPoset k), (46, fe_impl_Poset_order k), (47, fe_slices_Contains_int64 k)] (lk []) pins0 pinB0) [.tmp 2, .tmp 3] (.pr (.sl 2 (.int .i64)) (.int .i64))) ((loopsOf (codeOf Tryd.f23)).getD 2 .skip) (fun σ kx => impl_FirstExtension_l2_h.get σ fun x => impl_FirstExtension_l2_F k k x kx) := by
  refine ⟨impl_FirstExtension_l2_h, [(4, impl_FirstExtension_l2_x4)], fun n x kx => impl_FirstExtension_l2_F k n x kx, k, by kernel_rfl, by kernel_rfl, fun x kx => by kernel_rfl, ?_, fun σ kx => rfl⟩
  rintro n ⟨⟨⟨⟩, ⟨⟩, ⟨⟩, x6, ready7, x15, x16, x19, x20, x28, x29, ⟨⟩⟩, ⟨q_8, q_9, ⟨⟩⟩, ⟨v_1, ⟨⟩⟩⟩ kx
  kernel_rfl
theorem impl_FirstExtension_l1_ok (k : Nat) : LoopOK (mkEnv ti [(22, fe_impl_ValidPoset k), (46, fe_impl_Poset_order k), (47, fe_slices_Contains_int64 k)] (lk []) pins0 pinB0) (impl_FirstExtension_O k) (rdC (mkEnv ti [(22, fe_impl_ValidPoset k), (46, fe_impl_Poset_order k), (47, fe_slices_Contains_int64 k)] (lk []) pins0 pinB0) [.tmp 2, .tmp 3] (.pr (.sl 2 (.int .i64)) (.int .i64))) ((loopsOf (codeOf Tryd.f23)).getD 1 .skip) (fun σ kx => impl_FirstExtension_l1_h.get σ fun x => impl_FirstExtension_l1_F k k x kx) := by
  refine ⟨impl_FirstExtension_l1_h, [(2, impl_FirstExtension_l1_x2)], fun n x kx => impl_FirstExtension_l1_F k n x kx, k, by kernel_rfl, by kernel_rfl, fun x kx => by kernel_rfl, ?_, fun σ kx => rfl⟩
  rintro n ⟨⟨⟨⟩, ⟨⟩, ⟨⟩, x15, x16, x19, x20, ⟨⟩⟩, ⟨q_5, q_6, ⟨⟩⟩, ⟨v_1, ⟨⟩⟩⟩ kx
  kernel_rfl
theorem impl_FirstExtension_l0_ok (k : Nat) : LoopOK (mkEnv ti [(22, fe_impl_ValidPoset k), (46, fe_impl_Poset_order k), (47, fe_slices_Contains_int64 k)] (lk []) pins0 pinB0) (impl_FirstExtension_O k) (rdC (mkEnv ti [(22, fe_impl_ValidPoset k), (46, fe_impl_Poset_order k), (47, fe_slices_Contains_int64 k)] (lk []) pins0 pinB0) [.tmp 2, .tmp 3] (.pr (.sl 2 (.int .i64)) (.int .i64))) ((loopsOf (codeOf Tryd.f23)).getD 0 .skip) (fun σ kx => impl_FirstExtension_l0_h.get σ fun x => impl_FirstExtension_l0_F k k x kx) := by
  refine ⟨impl_FirstExtension_l0_h, [(0, impl_FirstExtension_l0_x0)], fun n x kx => impl_FirstExtension_l0_F k n x kx, k, by kernel_rfl, by kernel_rfl, fun x kx => by kernel_rfl, ?_, fun σ kx => rfl⟩
  rintro n ⟨⟨⟨⟩, ⟨⟩, ⟨⟩, x15, x16, ⟨⟩⟩, ⟨q_3, q_4, ⟨⟩⟩, ⟨v_1, ⟨⟩⟩⟩ kx
  kernel_rfl
theorem ok_impl_FirstExtension (k : Nat) : FnOK Tryd.prog 23 (fe_impl_FirstExtension k) := by
  refine closed_ok (tab := [(22, fe_impl_ValidPoset k), (46, fe_impl_Poset_order k), (47, fe_slices_Contains_int64 k)]) (l := []) ti_ok ti_ht mix (List.forall_mem_cons.2 ⟨ok_impl_ValidPoset k, (List.forall_mem_cons.2 ⟨ok_impl_Poset_order k, (List.forall_mem_cons.2 ⟨ok_slices_Contains_int64 k, (List.forall_mem_nil _)⟩)⟩)⟩) (List.forall_mem_nil _) ⟨⟨Tryd.f23, (codeOf Tryd.f23), [.tmp 2, .tmp 3], (impl_FirstExtension_O k), by kernel_rfl, by kernel_rfl, by kernel_rfl, by kernel_rfl, rfl, by decide, ⟨by kernel_rfl, ?_, ?_⟩, ?_⟩⟩
  · refine loops_of (n := 3) (by kernel_rfl) fun i hi => ?_
    match i, hi with
    | 0, _ => exact loop_of (by kernel_rfl) (impl_FirstExtension_l0_ok k)
    | 1, _ => exact loop_of (by kernel_rfl) (impl_FirstExtension_l1_ok k)
    | 2, _ => exact loop_of (by kernel_rfl) (impl_FirstExtension_l2_ok k)
    | n + 3, hi => omega
  · exact no_cuts (by kernel_rfl)
  · rintro p0
    kernel_rfl
/- 48 strconv.FormatInt (off the shelf) -/
def strconv_FormatInt (n : Int) (b : Int) : Option (List UInt8) := if b = 10 ∧ -9223372036854775808 ≤ n ∧ n ≤ 9223372036854775807 then some (Lib.itoa n) else none
abbrev fe_strconv_FormatInt : FE := fe_formatInt
theorem ok_strconv_FormatInt : FnOK Tryd.prog 48 fe_strconv_FormatInt := ok_formatInt (fn := Tryd.f48) (cd := codeOf Tryd.f48) (by kernel_rfl) (by kernel_rfl) (by kernel_rfl) (fun n h0 h1 w hG => Go.Proofs.Tryd.strconv_FormatInt_10 n h0 h1 w hG)
/- 24 loop.example/g01005/impl.Decimal -/
def impl_Decimal (n0 : Int) : Option (List UInt8) := (strconv_FormatInt n0 10).bind fun r_1 => some r_1
def fe_impl_Decimal : FE := ⟨(.int .i64), 1, .str, fun x => impl_Decimal x⟩
theorem ok_impl_Decimal : FnOK Tryd.prog 24 (fe_impl_Decimal) := by
  refine closed_ok (tab := [(48, fe_strconv_FormatInt)]) (l := []) ti_ok ti_ht mix (List.forall_mem_cons.2 ⟨ok_strconv_FormatInt, (List.forall_mem_nil _)⟩) (List.forall_mem_nil _) ⟨⟨Tryd.f24, (codeOf Tryd.f24), [.tmp 2], (LOn (List UInt8)), by kernel_rfl, by kernel_rfl, by kernel_rfl, by kernel_rfl, rfl, by decide, ⟨by kernel_rfl, ?_, ?_⟩, ?_⟩⟩
  · exact no_loops (by kernel_rfl)
  · exact no_cuts (by kernel_rfl)
  · rintro n0
    kernel_rfl
/- 25 strings.Join (off the shelf) -/
def strings_Join_s (sep1 : List UInt8) (q_1 : List (List UInt8)) : Option ((List UInt8 × Unit) × (List (List UInt8) × Unit) × Unit) := if List.length q_1 ≤ LIM ∧ (Lib.join q_1 sep1).length ≤ LIM then some ((Lib.join q_1 sep1, ()), (q_1, ()), ()) else none
def oc_strings_Join_s : OC := oc_join 9
theorem ok_strings_Join_s : OpenOK Tryd.prog ti 25 oc_strings_Join_s := ok_join (fn := Tryd.f25) (cd := codeOf Tryd.f25) (by kernel_rfl) (by kernel_rfl) (by kernel_rfl) (fun bk o c xs sep w h1 h2 h3 h4 h5 => Go.Proofs.Tryd.strings_Join bk o c xs sep w h1 h2 h3 h4 h5) (fun a c sep w => Go.Proofs.Tryd.strings_Join_none a c sep w)
/- 52 strings.Repeat (off the shelf) -/
def strings_Repeat (s : List UInt8) (c : Int) : Option (List UInt8) := if 0 ≤ c ∧ c ≤ 9223372036854775807 ∧ List.length s * c.toNat ≤ 140737488355328 then some (Lib.repeatL s c.toNat) else none
abbrev fe_strings_Repeat : FE := fe_repeat
theorem ok_strings_Repeat : FnOK Tryd.prog 52 fe_strings_Repeat := ok_repeat (fn := Tryd.f52) (cd := codeOf Tryd.f52) (by kernel_rfl) (by kernel_rfl) (by kernel_rfl) (fun s c w h1 h2 => Go.Proofs.Tryd.strings_Repeat s c w h1 h2)
/- 26 loop.example/g01005/impl.pictured -/
def impl_pictured_l0 (k : Nat) : Nat → (List (List UInt8)) → Int → (List (List UInt8)) → Int → Int → ((List (List UInt8)) → Int → Option (List (List UInt8) × Int)) → Option (List (List UInt8) × Int)
  | 0, _, _, _, _, _, _ => none
  | n + 1, lines0, width4, x10, x11, x12, e_0 => (if (decide (x12 < x11)) = true then (if 0 ≤ x12 then (x10[x12.toNat]?).bind fun y_1 => impl_pictured_l0 k n lines0 (if width4 < (List.length y_1 : Int) then (List.length y_1 : Int) else width4) x10 x11 (w_i64 (x12 + 1)) e_0 else none) else e_0 lines0 width4)
def impl_pictured_l1 (k : Nat) : Nat → Int → (List (List UInt8)) → Int → Int → (List (List UInt8)) → (Int → (List (List UInt8)) → Option (List (List UInt8) × Int)) → Option (List (List UInt8) × Int)
  | 0, _, _, _, _, _, _ => none
  | n + 1, width4, x21, x22, x23, q_4, e_2 => (if (decide (x23 < x22)) = true then (if 0 ≤ x23 then (x21[x23.toNat]?).bind fun y_5 => (strings_Repeat [32] (w_i64 (width4 - (List.length y_5 : Int)))).bind fun r_6 => (if y_5.length + r_6.length ≤ 9223372036854775807 then (if (q_4.length + [(y_5 ++ r_6)].length) * 16 ≤ LIM then impl_pictured_l1 k n width4 x21 x22 (w_i64 (x23 + 1)) (q_4 ++ [(y_5 ++ r_6)]) e_2 else none) else none) else none) else e_2 width4 q_4)
def impl_pictured (k : Nat) (lines0 : List (List UInt8)) : Option (List (List UInt8) × Int) := impl_pictured_l0 k k lines0 0 lines0 (List.length lines0 : Int) 0 (fun lines_2 width_3 => impl_pictured_l1 k k width_3 lines_2 (List.length lines_2 : Int) 0 [] (fun width_7 q_8 => (if (decide (60 < (List.length q_8 : Int))) = true then some ([], 5) else (if (decide (80 < width_7)) = true then some ([], 5) else some (q_8, 0)))))
def impl_pictured_l0_h : Head := ⟨[(0, (.val (.sl 9 .str))), (4, (.val (.int .i64))), (10, (.val (.sl 9 .str))), (11, (.val (.int .i64))), (12, (.val (.int .i64)))], [], []⟩
def impl_pictured_l0_x0 : Head := ⟨[(0, (.val (.sl 9 .str))), (4, (.val (.int .i64)))], [], []⟩
def impl_pictured_l0_F (k n : Nat) (x : impl_pictured_l0_h.T) (kx : Nat → St → Option (List (List UInt8) × Int)) : Option (List (List UInt8) × Int) := impl_pictured_l0 k n x.1.1 x.1.2.1 x.1.2.2.1 x.1.2.2.2.1 x.1.2.2.2.2.1 (fun (lines0 : List (List UInt8)) (width4 : Int) => kx 0 (impl_pictured_l0_x0.fill ((lines0, width4, ()), (), ())))
def impl_pictured_l1_h : Head := ⟨[(4, (.val (.int .i64))), (7, (.ref 64000000 [])), (21, (.val (.sl 9 .str))), (22, (.val (.int .i64))), (23, (.val (.int .i64)))], [(64000000, 9, .str, false)], []⟩
def impl_pictured_l1_x2 : Head := ⟨[(4, (.val (.int .i64))), (7, (.ref 64000000 []))], [(64000000, 9, .str, false)], []⟩
def impl_pictured_l1_F (k n : Nat) (x : impl_pictured_l1_h.T) (kx : Nat → St → Option (List (List UInt8) × Int)) : Option (List (List UInt8) × Int) := impl_pictured_l1 k n x.1.1 x.1.2.2.1 x.1.2.2.2.1 x.1.2.2.2.2.1 x.2.1.1 (fun (width4 : Int) (q_7 : List (List UInt8)) => kx 2 (impl_pictured_l1_x2.fill ((width4, (), ()), (q_7, ()), ())))
def impl_pictured_O (k : Nat) : Oracles (List (List UInt8) × Int) := ⟨fun n => bif Nat.beq n 3 then some (fun σ kx => impl_pictured_l0_h.get σ fun x => impl_pictured_l0_F k k x kx) else bif Nat.beq n 9 then some (fun σ kx => impl_pictured_l1_h.get σ fun x => impl_pictured_l1_F k k x kx) else none, fun _ => none⟩
def fe_impl_pictured (k : Nat) : FE := ⟨(.sl 9 .str), 2, (.pr (.sl 9 .str) (.int .i64)), fun x => impl_pictured k x⟩
theorem impl_pictured_l0_ok (k : Nat) : LoopOK (mkEnv ti [(52, fe_strings_Repeat)] (lk []) pins0 pinB0) (impl_pictured_O k) (rdC (mkEnv ti [(52, fe_strings_Repeat)] (lk []) pins0 pinB0) [.tmp 2, .tmp 3] (.pr (.sl 9 .str) (.int .i64))) ((loopsOf (codeOf Tryd.f26)).getD 0 .skip) (fun σ kx => impl_pictured_l0_h.get σ fun x => impl_pictured_l0_F k k x kx) := by
  refine ⟨impl_pictured_l0_h, [(0, impl_pictured_l0_x0)], fun n x kx => impl_pictured_l0_F k n x kx, k, by kernel_rfl, by kernel_rfl, fun x kx => by kernel_rfl, ?_, fun σ kx => rfl⟩
  rintro n ⟨⟨lines0, width4, x10, x11, x12, ⟨⟩⟩, ⟨⟩, ⟨⟩⟩ kx
  kernel_rfl
theorem impl_pictured_l1_ok (k : Nat) : LoopOK (mkEnv ti [(52, fe_strings_Repeat)] (lk []) pins0 pinB0) (impl_pictured_O k) (rdC (mkEnv ti [(52, fe_strings_Repeat)] (lk []) pins0 pinB0) [.tmp 2, .tmp 3] (.pr (.sl 9 .str) (.int .i64))) ((loopsOf (codeOf Tryd.f26)).getD 1 .skip) (fun σ kx => impl_pictured_l1_h.get σ fun x => impl_pictured_l1_F k k x kx) := by
  refine ⟨impl_pictured_l1_h, [(2, impl_pictured_l1_x2)], fun n x kx => impl_pictured_l1_F k n x kx, k, by kernel_rfl, by kernel_rfl, fun x kx => by kernel_rfl, ?_, fun σ kx => rfl⟩
  rintro n ⟨⟨width4, ⟨⟩, x21, x22, x23, ⟨⟩⟩, ⟨q_4, ⟨⟩⟩, ⟨⟩⟩ kx
  kernel_rfl
theorem ok_impl_pictured (k : Nat) : FnOK Tryd.prog 26 (fe_impl_pictured k) := by
  refine closed_ok (tab := [(52, fe_strings_Repeat)]) (l := []) ti_ok ti_ht mix (List.forall_mem_cons.2 ⟨ok_strings_Repeat, (List.forall_mem_nil _)⟩) (List.forall_mem_nil _) ⟨⟨Tryd.f26, (codeOf Tryd.f26), [.tmp 2, .tmp 3], (impl_pictured_O k), by kernel_rfl, by kernel_rfl, by kernel_rfl, by kernel_rfl, rfl, by decide, ⟨by kernel_rfl, ?_, ?_⟩, ?_⟩⟩
  · refine loops_of (n := 2) (by kernel_rfl) fun i hi => ?_
    match i, hi with
    | 0, _ => exact loop_of (by kernel_rfl) (impl_pictured_l0_ok k)
    | 1, _ => exact loop_of (by kernel_rfl) (impl_pictured_l1_ok k)
    | n + 2, hi => omega
  · exact no_cuts (by kernel_rfl)
  · rintro lines0
    kernel_rfl
/- 7 loop.example/g01005/impl.PosetPicture -/
def impl_PosetPicture_l1 (k : Nat) : Nat → Int → Int → Int → (List (List Int)) → Int → Int → (List Int) → (List Int) → (Int × List (List Int)) → (Int → Int → (List Int) → (List Int) → (Int × List (List Int)) → Option (List (List UInt8) × Int)) → Option (List (List UInt8) × Int)
  | 0, _, _, _, _, _, _, _, _, _, _ => none
  | n + 1, x8, x28, x29, x37, x38, x39, q_8, q_9, v_1, e_2 => (if (decide (x39 < x38)) = true then (if 0 ≤ x39 then (x37[x39.toNat]?).bind fun y_10 => (y_10[1]?).bind fun y_11 => (if (decide (y_11 = x8)) = true then (if 0 ≤ x8 ∧ x8.toNat < List.length q_8 then (q_8[x8.toNat]?).bind fun y_12 => (y_10[0]?).bind fun y_13 => (if 0 ≤ y_13 ∧ y_13.toNat < List.length q_8 then (q_8[y_13.toNat]?).bind fun y_14 => (if 0 ≤ x8 ∧ x8.toNat < List.length q_8 then (q_8[x8.toNat]?).bind fun y_15 => (q_8[x8.toNat]?).bind fun y_16 => impl_PosetPicture_l1 k n x8 x28 x29 x37 x38 (w_i64 (x39 + 1)) (q_8.set x8.toNat (if y_12 < (w_i64 (y_14 + 1)) then (w_i64 (y_14 + 1)) else y_12)) q_9 v_1 e_2 else none) else none) else none) else impl_PosetPicture_l1 k n x8 x28 x29 x37 x38 (w_i64 (x39 + 1)) q_8 q_9 v_1 e_2) else none) else e_2 x28 x29 q_8 q_9 v_1)
def impl_PosetPicture_l3 (k : Nat) : Nat → Int → Int → Int → (List Int) → (List (List UInt8)) → (List (List UInt8)) → (Int → (List Int) → (List (List UInt8)) → (List (List UInt8)) → Option (List (List UInt8) × Int)) → Option (List (List UInt8) × Int)
  | 0, _, _, _, _, _, _, _ => none
  | n + 1, h12, x72, x73, q_17, q_18, q_19, e_6 => (if (decide (x73 < x72)) = true then (if 0 ≤ x73 ∧ x73.toNat < List.length q_17 then (q_17[x73.toNat]?).bind fun y_20 => (if (decide (y_20 = h12)) = true then (impl_Decimal x73).bind fun r_21 => (if (q_19.length + [r_21].length) * 16 ≤ LIM then impl_PosetPicture_l3 k n h12 x72 (w_i64 (x73 + 1)) q_17 q_18 (q_19 ++ [r_21]) e_6 else none) else impl_PosetPicture_l3 k n h12 x72 (w_i64 (x73 + 1)) q_17 q_18 q_19 e_6) else none) else e_6 h12 q_17 q_18 q_19)
def impl_PosetPicture_l0 (k : Nat) : Nat → Int → Int → (List Int) → (List Int) → (Int × List (List Int)) → ((List Int) → (Int × List (List Int)) → Option (List (List UInt8) × Int)) → Option (List (List UInt8) × Int)
  | 0, _, _, _, _, _, _ => none
  | n + 1, x28, x29, q_3, q_4, v_1, e_0 => (if (decide (x29 < x28)) = true then (if 0 ≤ x29 ∧ x29.toNat < List.length q_4 then (q_4[x29.toNat]?).bind fun y_5 => (if 0 ≤ y_5 ∧ y_5.toNat < List.length q_3 then (q_3[y_5.toNat]?).bind fun y_6 => (q_3[y_5.toNat]?).bind fun y_7 => impl_PosetPicture_l1 k k y_5 x28 x29 v_1.2 (List.length v_1.2 : Int) 0 (q_3.set y_5.toNat 1) q_4 v_1 (fun x_8 x_9 q_10 q_11 v_12 => impl_PosetPicture_l0 k n x_8 (w_i64 (x_9 + 1)) q_10 q_11 v_12 e_0) else none) else none) else e_0 q_3 v_1)
def impl_PosetPicture_l2 (k : Nat) : Nat → Int → (List Int) → (List (List UInt8)) → ((List (List UInt8)) → Option (List (List UInt8) × Int)) → Option (List (List UInt8) × Int)
  | 0, _, _, _, _ => none
  | n + 1, h12, q_15, q_16, e_4 => (if (decide (1 ≤ h12)) = true then impl_PosetPicture_l3 k k h12 (List.length q_15 : Int) 0 q_15 q_16 [] (fun h_17 q_18 q_19 q_20 => (if (decide (0 < (List.length q_20 : Int))) = true then (strings_Join_s [32] q_20).bind fun y_21 => (if (q_19.length + [y_21.1.1].length) * 16 ≤ LIM then impl_PosetPicture_l2 k n (w_i64 (h_17 - 1)) q_18 (q_19 ++ [y_21.1.1]) e_4 else none) else impl_PosetPicture_l2 k n (w_i64 (h_17 - 1)) q_18 q_19 e_4)) else e_4 q_16)
def impl_PosetPicture (k : Nat) (p0 : Int × List (List Int)) : Option (List (List UInt8) × Int) := (impl_ValidPoset k p0).bind fun r_1 => (if (!r_1) = true then some ([], 1) else (impl_FirstExtension k p0).bind fun r_2 => (if 0 ≤ p0.1 ∧ p0.1 ≤ p0.1 ∧ p0.1 * 8 ≤ LIM then impl_PosetPicture_l0 k k (List.length r_2.1 : Int) 0 (List.replicate p0.1.toNat 0) r_2.1 p0 (fun q_13 v_14 => impl_PosetPicture_l2 k k v_14.1 q_13 [] (fun q_22 => (impl_pictured k q_22).bind fun r_23 => some (r_23.1, r_23.2))) else none))
def impl_PosetPicture_l1_h : Head := ⟨[(1, (.bp 1 [] 0)), (6, (.ref 64000000 [])), (8, (.val (.int .i64))), (27, (.ref 64000001 [])), (28, (.val (.int .i64))), (29, (.val (.int .i64))), (37, (.val (.sl 41 (.sl 2 (.int .i64))))), (38, (.val (.int .i64))), (39, (.val (.int .i64)))], [(64000000, 2, (.int .i64), false), (64000001, 2, (.int .i64), false)], [(1, 29, (.val (.st (.pr (.int .i64) (.sl 41 (.sl 2 (.int .i64)))))))]⟩
def impl_PosetPicture_l1_x2 : Head := ⟨[(1, (.bp 1 [] 0)), (6, (.ref 64000000 [])), (27, (.ref 64000001 [])), (28, (.val (.int .i64))), (29, (.val (.int .i64)))], [(64000000, 2, (.int .i64), false), (64000001, 2, (.int .i64), false)], [(1, 29, (.val (.st (.pr (.int .i64) (.sl 41 (.sl 2 (.int .i64)))))))]⟩
def impl_PosetPicture_l1_F (k n : Nat) (x : impl_PosetPicture_l1_h.T) (kx : Nat → St → Option (List (List UInt8) × Int)) : Option (List (List UInt8) × Int) := impl_PosetPicture_l1 k n x.1.2.2.1 x.1.2.2.2.2.1 x.1.2.2.2.2.2.1 x.1.2.2.2.2.2.2.1 x.1.2.2.2.2.2.2.2.1 x.1.2.2.2.2.2.2.2.2.1 x.2.1.1 x.2.1.2.1 x.2.2.1 (fun (x28 : Int) (x29 : Int) (q_17 : List Int) (q_18 : List Int) (v_1 : Int × List (List Int)) => kx 2 (impl_PosetPicture_l1_x2.fill (((), (), (), x28, x29, ()), (q_17, q_18, ()), (v_1, ()))))
def impl_PosetPicture_l3_h : Head := ⟨[(6, (.ref 64000000 [])), (11, (.ref 64000001 [])), (12, (.val (.int .i64))), (13, (.ref 64000002 [])), (71, (.ref 64000000 [])), (72, (.val (.int .i64))), (73, (.val (.int .i64)))], [(64000000, 2, (.int .i64), false), (64000001, 9, .str, false), (64000002, 9, .str, false)], []⟩
def impl_PosetPicture_l3_x6 : Head := ⟨[(6, (.ref 64000000 [])), (11, (.ref 64000001 [])), (12, (.val (.int .i64))), (13, (.ref 64000002 []))], [(64000000, 2, (.int .i64), false), (64000001, 9, .str, false), (64000002, 9, .str, false)], []⟩
def impl_PosetPicture_l3_F (k n : Nat) (x : impl_PosetPicture_l3_h.T) (kx : Nat → St → Option (List (List UInt8) × Int)) : Option (List (List UInt8) × Int) := impl_PosetPicture_l3 k n x.1.2.2.1 x.1.2.2.2.2.2.1 x.1.2.2.2.2.2.2.1 x.2.1.1 x.2.1.2.1 x.2.1.2.2.1 (fun (h12 : Int) (q_22 : List Int) (q_23 : List (List UInt8)) (q_24 : List (List UInt8)) => kx 6 (impl_PosetPicture_l3_x6.fill (((), (), h12, (), ()), (q_22, q_23, q_24, ()), ())))
def impl_PosetPicture_l0_h : Head := ⟨[(1, (.bp 1 [] 0)), (6, (.ref 64000000 [])), (27, (.ref 64000001 [])), (28, (.val (.int .i64))), (29, (.val (.int .i64)))], [(64000000, 2, (.int .i64), false), (64000001, 2, (.int .i64), false)], [(1, 29, (.val (.st (.pr (.int .i64) (.sl 41 (.sl 2 (.int .i64)))))))]⟩
def impl_PosetPicture_l0_x0 : Head := ⟨[(1, (.bp 1 [] 0)), (6, (.ref 64000000 []))], [(64000000, 2, (.int .i64), false)], [(1, 29, (.val (.st (.pr (.int .i64) (.sl 41 (.sl 2 (.int .i64)))))))]⟩
def impl_PosetPicture_l0_F (k n : Nat) (x : impl_PosetPicture_l0_h.T) (kx : Nat → St → Option (List (List UInt8) × Int)) : Option (List (List UInt8) × Int) := impl_PosetPicture_l0 k n x.1.2.2.2.1 x.1.2.2.2.2.1 x.2.1.1 x.2.1.2.1 x.2.2.1 (fun (q_22 : List Int) (v_1 : Int × List (List Int)) => kx 0 (impl_PosetPicture_l0_x0.fill (((), (), ()), (q_22, ()), (v_1, ()))))
def impl_PosetPicture_l2_h : Head := ⟨[(6, (.ref 64000000 [])), (11, (.ref 64000001 [])), (12, (.val (.int .i64)))], [(64000000, 2, (.int .i64), false), (64000001, 9, .str, false)], []⟩
def impl_PosetPicture_l2_x4 : Head := ⟨[(11, (.ref 64000000 []))], [(64000000, 9, .str, false)], []⟩
def impl_PosetPicture_l2_F (k n : Nat) (x : impl_PosetPicture_l2_h.T) (kx : Nat → St → Option (List (List UInt8) × Int)) : Option (List (List UInt8) × Int) := impl_PosetPicture_l2 k n x.1.2.2.1 x.2.1.1 x.2.1.2.1 (fun (q_27 : List (List UInt8)) => kx 4 (impl_PosetPicture_l2_x4.fill (((), ()), (q_27, ()), ())))
def impl_PosetPicture_O (k : Nat) : Oracles (List (List UInt8) × Int) := ⟨fun n => bif Nat.beq n 10 then some (fun σ kx => impl_PosetPicture_l1_h.get σ fun x => impl_PosetPicture_l1_F k k x kx) else bif Nat.beq n 22 then some (fun σ kx => impl_PosetPicture_l3_h.get σ fun x => impl_PosetPicture_l3_F k k x kx) else bif Nat.beq n 6 then some (fun σ kx => impl_PosetPicture_l0_h.get σ fun x => impl_PosetPicture_l0_F k k x kx) else bif Nat.beq n 18 then some (fun σ kx => impl_PosetPicture_l2_h.get σ fun x => impl_PosetPicture_l2_F k k x kx) else none, fun _ => none⟩
def fe_impl_PosetPicture (k : Nat) : FE := ⟨(.st (.pr (.int .i64) (.sl 41 (.sl 2 (.int .i64))))), 2, (.pr (.sl 9 .str) (.int .i64)), fun x => impl_PosetPicture k x⟩
theorem impl_PosetPicture_l1_ok (k : Nat) : LoopOK (mkEnv ti [(22, fe_impl_ValidPoset k), (23, fe_impl_FirstExtension k), (24, fe_impl_Decimal), (26, fe_impl_pictured k)] (lk [(92, 25, oc_strings_Join_s)]) pins0 pinB0) (impl_PosetPicture_O k) (rdC (mkEnv ti [(22, fe_impl_ValidPoset k), (23, fe_impl_FirstExtension k), (24, fe_impl_Decimal), (26, fe_impl_pictured k)] (lk [(92, 25, oc_strings_Join_s)]) pins0 pinB0) [.tmp 2, .tmp 3] (.pr (.sl 9 .str) (.int .i64))) ((loopsOf (codeOf Tryd.f7)).getD 1 .skip) (fun σ kx => impl_PosetPicture_l1_h.get σ fun x => impl_PosetPicture_l1_F k k x kx) := by
  refine ⟨impl_PosetPicture_l1_h, [(2, impl_PosetPicture_l1_x2)], fun n x kx => impl_PosetPicture_l1_F k n x kx, k, by kernel_rfl, by kernel_rfl, fun x kx => by kernel_rfl, ?_, fun σ kx => rfl⟩
  rintro n ⟨⟨⟨⟩, ⟨⟩, x8, ⟨⟩, x28, x29, x37, x38, x39, ⟨⟩⟩, ⟨q_8, q_9, ⟨⟩⟩, ⟨v_1, ⟨⟩⟩⟩ kx
  kernel_rfl
theorem impl_PosetPicture_l3_ok (k : Nat) : LoopOK (mkEnv ti [(22, fe_impl_ValidPoset k), (23, fe_impl_FirstExtension k), (24, fe_impl_Decimal), (26, fe_impl_pictured k)] (lk [(92, 25, oc_strings_Join_s)]) pins0 pinB0) (impl_PosetPicture_O k) (rdC (mkEnv ti [(22, fe_impl_ValidPoset k), (23, fe_impl_FirstExtension k), (24, fe_impl_Decimal), (26, fe_impl_pictured k)] (lk [(92, 25, oc_strings_Join_s)]) pins0 pinB0) [.tmp 2, .tmp 3] (.pr (.sl 9 .str) (.int .i64))) ((loopsOf (codeOf Tryd.f7)).getD 3 .skip) (fun σ kx => impl_PosetPicture_l3_h.get σ fun x => impl_PosetPicture_l3_F k k x kx) := by
  refine ⟨impl_PosetPicture_l3_h, [(6, impl_PosetPicture_l3_x6)], fun n x kx => impl_PosetPicture_l3_F k n x kx, k, by kernel_rfl, by kernel_rfl, fun x kx => by kernel_rfl, ?_, fun σ kx => rfl⟩
  rintro n ⟨⟨⟨⟩, ⟨⟩, h12, ⟨⟩, ⟨⟩, x72, x73, ⟨⟩⟩, ⟨q_17, q_18, q_19, ⟨⟩⟩, ⟨⟩⟩ kx
  kernel_rfl
theorem impl_PosetPicture_l0_ok (k : Nat) : LoopOK (mkEnv ti [(22, fe_impl_ValidPoset k), (23, fe_impl_FirstExtension k), (24, fe_impl_Decimal), (26, fe_impl_pictured k)] (lk [(92, 25, oc_strings_Join_s)]) pins0 pinB0) (impl_PosetPicture_O k) (rdC (mkEnv ti [(22, fe_impl_ValidPoset k), (23, fe_impl_FirstExtension k), (24, fe_impl_Decimal), (26, fe_impl_pictured k)] (lk [(92, 25, oc_strings_Join_s)]) pins0 pinB0) [.tmp 2, .tmp 3] (.pr (.sl 9 .str) (.int .i64))) ((loopsOf (codeOf Tryd.f7)).getD 0 .skip) (fun σ kx => impl_PosetPicture_l0_h.get σ fun x => impl_PosetPicture_l0_F k k x kx) := by
  refine ⟨impl_PosetPicture_l0_h, [(0, impl_PosetPicture_l0_x0)], fun n x kx => impl_PosetPicture_l0_F k n x kx, k, by kernel_rfl, by kernel_rfl, fun x kx => by kernel_rfl, ?_, fun σ kx => rfl⟩
  rintro n ⟨⟨⟨⟩, ⟨⟩, ⟨⟩, x28, x29, ⟨⟩⟩, ⟨q_3, q_4, ⟨⟩⟩, ⟨v_1, ⟨⟩⟩⟩ kx
  kernel_rfl
theorem impl_PosetPicture_l2_ok (k : Nat) : LoopOK (mkEnv ti [(22, fe_impl_ValidPoset k), (23, fe_impl_FirstExtension k), (24, fe_impl_Decimal), (26, fe_impl_pictured k)] (lk [(92, 25, oc_strings_Join_s)]) pins0 pinB0) (impl_PosetPicture_O k) (rdC (mkEnv ti [(22, fe_impl_ValidPoset k), (23, fe_impl_FirstExtension k), (24, fe_impl_Decimal), (26, fe_impl_pictured k)] (lk [(92, 25, oc_strings_Join_s)]) pins0 pinB0) [.tmp 2, .tmp 3] (.pr (.sl 9 .str) (.int .i64))) ((loopsOf (codeOf Tryd.f7)).getD 2 .skip) (fun σ kx => impl_PosetPicture_l2_h.get σ fun x => impl_PosetPicture_l2_F k k x kx) := by
  refine ⟨impl_PosetPicture_l2_h, [(4, impl_PosetPicture_l2_x4)], fun n x kx => impl_PosetPicture_l2_F k n x kx, k, by kernel_rfl, by kernel_rfl, fun x kx => by kernel_rfl, ?_, fun σ kx => rfl⟩
  rintro n ⟨⟨⟨⟩, ⟨⟩, h12, ⟨⟩⟩, ⟨q_15, q_16, ⟨⟩⟩, ⟨⟩⟩ kx
  kernel_rfl
theorem ok_impl_PosetPicture (k : Nat) : FnOK Tryd.prog 7 (fe_impl_PosetPicture k) := by
  refine closed_ok (tab := [(22, fe_impl_ValidPoset k), (23, fe_impl_FirstExtension k), (24, fe_impl_Decimal), (26, fe_impl_pictured k)]) (l := [(92, 25, oc_strings_Join_s)]) ti_ok ti_ht mix (List.forall_mem_cons.2 ⟨ok_impl_ValidPoset k, (List.forall_mem_cons.2 ⟨ok_impl_FirstExtension k, (List.forall_mem_cons.2 ⟨ok_impl_Decimal, (List.forall_mem_cons.2 ⟨ok_impl_pictured k, (List.forall_mem_nil _)⟩)⟩)⟩)⟩) (List.forall_mem_cons.2 ⟨ok_strings_Join_s, (List.forall_mem_nil _)⟩) ⟨⟨Tryd.f7, (codeOf Tryd.f7), [.tmp 2, .tmp 3], (impl_PosetPicture_O k), by kernel_rfl, by kernel_rfl, by kernel_rfl, by kernel_rfl, rfl, by decide, ⟨by kernel_rfl, ?_, ?_⟩, ?_⟩⟩
  · refine loops_of (n := 4) (by kernel_rfl) fun i hi => ?_
    match i, hi with
    | 0, _ => exact loop_of (by kernel_rfl) (impl_PosetPicture_l0_ok k)
    | 1, _ => exact loop_of (by kernel_rfl) (impl_PosetPicture_l1_ok k)
    | 2, _ => exact loop_of (by kernel_rfl) (impl_PosetPicture_l2_ok k)
    | 3, _ => exact loop_of (by kernel_rfl) (impl_PosetPicture_l3_ok k)
    | n + 4, hi => omega
  · exact no_cuts (by kernel_rfl)
  · rintro p0
    kernel_rfl
/- 8 loop.example/g01005/laws.eqStringS -/
def laws_eqStringS_l0 (k : Nat) : Nat → (List (List UInt8)) → (List (List UInt8)) → Int → (Option Bool) → Option Bool
  | 0, _, _, _, _ => none
  | n + 1, a0, b1, i5, e_0 => (if (decide (i5 < (List.length a0 : Int))) = true then (if 0 ≤ i5 then (a0[i5.toNat]?).bind fun y_1 => (if 0 ≤ i5 then (b1[i5.toNat]?).bind fun y_2 => (if (!(decide (y_1 = y_2))) = true then some false else laws_eqStringS_l0 k n a0 b1 (w_i64 (i5 + 1)) e_0) else none) else none) else e_0)
def laws_eqStringS (k : Nat) (a0 : List (List UInt8)) (b1 : List (List UInt8)) : Option Bool := (if (!(decide ((List.length a0 : Int) = (List.length b1 : Int)))) = true then some false else laws_eqStringS_l0 k k a0 b1 0 (some true))
def laws_eqStringS_l0_h : Head := ⟨[(0, (.val (.sl 9 .str))), (1, (.val (.sl 9 .str))), (5, (.val (.int .i64)))], [], []⟩
def laws_eqStringS_l0_x0 : Head := ⟨[], [], []⟩
def laws_eqStringS_l0_F (k n : Nat) (x : laws_eqStringS_l0_h.T) (kx : Nat → St → Option Bool) : Option Bool := laws_eqStringS_l0 k n x.1.1 x.1.2.1 x.1.2.2.1 (kx 0 (laws_eqStringS_l0_x0.fill ((), (), ())))
def laws_eqStringS_O (k : Nat) : Oracles Bool := ⟨fun n => bif Nat.beq n 4 then some (fun σ kx => laws_eqStringS_l0_h.get σ fun x => laws_eqStringS_l0_F k k x kx) else none, fun _ => none⟩
def fe_laws_eqStringS (k : Nat) : FE := ⟨(.pr (.sl 9 .str) (.sl 9 .str)), 1, .bool, fun x => laws_eqStringS k x.1 x.2⟩
theorem laws_eqStringS_l0_ok (k : Nat) : LoopOK (mkEnv ti [] (lk []) pins0 pinB0) (laws_eqStringS_O k) (rdC (mkEnv ti [] (lk []) pins0 pinB0) [.tmp 4] .bool) ((loopsOf (codeOf Tryd.f8)).getD 0 .skip) (fun σ kx => laws_eqStringS_l0_h.get σ fun x => laws_eqStringS_l0_F k k x kx) := by
  refine ⟨laws_eqStringS_l0_h, [(0, laws_eqStringS_l0_x0)], fun n x kx => laws_eqStringS_l0_F k n x kx, k, by kernel_rfl, by kernel_rfl, fun x kx => by kernel_rfl, ?_, fun σ kx => rfl⟩
  rintro n ⟨⟨a0, b1, i5, ⟨⟩⟩, ⟨⟩, ⟨⟩⟩ kx
  kernel_rfl
theorem ok_laws_eqStringS (k : Nat) : FnOK Tryd.prog 8 (fe_laws_eqStringS k) := by
  refine closed_ok (tab := []) (l := []) ti_ok ti_ht mix (List.forall_mem_nil _) (List.forall_mem_nil _) ⟨⟨Tryd.f8, (codeOf Tryd.f8), [.tmp 4], (laws_eqStringS_O k), by kernel_rfl, by kernel_rfl, by kernel_rfl, by kernel_rfl, rfl, by decide, ⟨by kernel_rfl, ?_, ?_⟩, ?_⟩⟩
  · refine loops_of (n := 1) (by kernel_rfl) fun i hi => ?_
    match i, hi with
    | 0, _ => exact loop_of (by kernel_rfl) (laws_eqStringS_l0_ok k)
    | n + 1, hi => omega
  · exact no_cuts (by kernel_rfl)
  · rintro ⟨a0, b1⟩
    kernel_rfl
/- 53 loop.example/g01005/laws.eqInt64S -/
def laws_eqInt64S_l0 (k : Nat) : Nat → (List Int) → (List Int) → Int → (Option Bool) → Option Bool
  | 0, _, _, _, _ => none
  | n + 1, a0, b1, i5, e_0 => (if (decide (i5 < (List.length a0 : Int))) = true then (if 0 ≤ i5 then (a0[i5.toNat]?).bind fun y_1 => (if 0 ≤ i5 then (b1[i5.toNat]?).bind fun y_2 => (if (!(decide (y_1 = y_2))) = true then some false else laws_eqInt64S_l0 k n a0 b1 (w_i64 (i5 + 1)) e_0) else none) else none) else e_0)
def laws_eqInt64S (k : Nat) (a0 : List Int) (b1 : List Int) : Option Bool := (if (!(decide ((List.length a0 : Int) = (List.length b1 : Int)))) = true then some false else laws_eqInt64S_l0 k k a0 b1 0 (some true))
def laws_eqInt64S_l0_h : Head := ⟨[(0, (.val (.sl 2 (.int .i64)))), (1, (.val (.sl 2 (.int .i64)))), (5, (.val (.int .i64)))], [], []⟩
def laws_eqInt64S_l0_x0 : Head := ⟨[], [], []⟩
def laws_eqInt64S_l0_F (k n : Nat) (x : laws_eqInt64S_l0_h.T) (kx : Nat → St → Option Bool) : Option Bool := laws_eqInt64S_l0 k n x.1.1 x.1.2.1 x.1.2.2.1 (kx 0 (laws_eqInt64S_l0_x0.fill ((), (), ())))
def laws_eqInt64S_O (k : Nat) : Oracles Bool := ⟨fun n => bif Nat.beq n 4 then some (fun σ kx => laws_eqInt64S_l0_h.get σ fun x => laws_eqInt64S_l0_F k k x kx) else none, fun _ => none⟩
def fe_laws_eqInt64S (k : Nat) : FE := ⟨(.pr (.sl 2 (.int .i64)) (.sl 2 (.int .i64))), 1, .bool, fun x => laws_eqInt64S k x.1 x.2⟩
theorem laws_eqInt64S_l0_ok (k : Nat) : LoopOK (mkEnv ti [] (lk []) pins0 pinB0) (laws_eqInt64S_O k) (rdC (mkEnv ti [] (lk []) pins0 pinB0) [.tmp 4] .bool) ((loopsOf (codeOf Tryd.f53)).getD 0 .skip) (fun σ kx => laws_eqInt64S_l0_h.get σ fun x => laws_eqInt64S_l0_F k k x kx) := by
  refine ⟨laws_eqInt64S_l0_h, [(0, laws_eqInt64S_l0_x0)], fun n x kx => laws_eqInt64S_l0_F k n x kx, k, by kernel_rfl, by kernel_rfl, fun x kx => by kernel_rfl, ?_, fun σ kx => rfl⟩
  rintro n ⟨⟨a0, b1, i5, ⟨⟩⟩, ⟨⟩, ⟨⟩⟩ kx
  kernel_rfl
theorem ok_laws_eqInt64S (k : Nat) : FnOK Tryd.prog 53 (fe_laws_eqInt64S k) := by
  refine closed_ok (tab := []) (l := []) ti_ok ti_ht mix (List.forall_mem_nil _) (List.forall_mem_nil _) ⟨⟨Tryd.f53, (codeOf Tryd.f53), [.tmp 4], (laws_eqInt64S_O k), by kernel_rfl, by kernel_rfl, by kernel_rfl, by kernel_rfl, rfl, by decide, ⟨by kernel_rfl, ?_, ?_⟩, ?_⟩⟩
  · refine loops_of (n := 1) (by kernel_rfl) fun i hi => ?_
    match i, hi with
    | 0, _ => exact loop_of (by kernel_rfl) (laws_eqInt64S_l0_ok k)
    | n + 1, hi => omega
  · exact no_cuts (by kernel_rfl)
  · rintro ⟨a0, b1⟩
    kernel_rfl
/- 27 loop.example/g01005/laws.eqInt64SS -/
def laws_eqInt64SS_l0 (k : Nat) : Nat → (List (List Int)) → (List (List Int)) → Int → (Option Bool) → Option Bool
  | 0, _, _, _, _ => none
  | n + 1, a0, b1, i5, e_0 => (if (decide (i5 < (List.length a0 : Int))) = true then (if 0 ≤ i5 then (a0[i5.toNat]?).bind fun y_1 => (if 0 ≤ i5 then (b1[i5.toNat]?).bind fun y_2 => (laws_eqInt64S k y_1 y_2).bind fun r_3 => (if (!r_3) = true then some false else laws_eqInt64SS_l0 k n a0 b1 (w_i64 (i5 + 1)) e_0) else none) else none) else e_0)
def laws_eqInt64SS (k : Nat) (a0 : List (List Int)) (b1 : List (List Int)) : Option Bool := (if (!(decide ((List.length a0 : Int) = (List.length b1 : Int)))) = true then some false else laws_eqInt64SS_l0 k k a0 b1 0 (some true))
def laws_eqInt64SS_l0_h : Head := ⟨[(0, (.val (.sl 41 (.sl 2 (.int .i64))))), (1, (.val (.sl 41 (.sl 2 (.int .i64))))), (5, (.val (.int .i64)))], [], []⟩
def laws_eqInt64SS_l0_x0 : Head := ⟨[], [], []⟩
def laws_eqInt64SS_l0_F (k n : Nat) (x : laws_eqInt64SS_l0_h.T) (kx : Nat → St → Option Bool) : Option Bool := laws_eqInt64SS_l0 k n x.1.1 x.1.2.1 x.1.2.2.1 (kx 0 (laws_eqInt64SS_l0_x0.fill ((), (), ())))
def laws_eqInt64SS_O (k : Nat) : Oracles Bool := ⟨fun n => bif Nat.beq n 4 then some (fun σ kx => laws_eqInt64SS_l0_h.get σ fun x => laws_eqInt64SS_l0_F k k x kx) else none, fun _ => none⟩
def fe_laws_eqInt64SS (k : Nat) : FE := ⟨(.pr (.sl 41 (.sl 2 (.int .i64))) (.sl 41 (.sl 2 (.int .i64)))), 1, .bool, fun x => laws_eqInt64SS k x.1 x.2⟩
theorem laws_eqInt64SS_l0_ok (k : Nat) : LoopOK (mkEnv ti [(53, fe_laws_eqInt64S k)] (lk []) pins0 pinB0) (laws_eqInt64SS_O k) (rdC (mkEnv ti [(53, fe_laws_eqInt64S k)] (lk []) pins0 pinB0) [.tmp 4] .bool) ((loopsOf (codeOf Tryd.f27)).getD 0 .skip) (fun σ kx => laws_eqInt64SS_l0_h.get σ fun x => laws_eqInt64SS_l0_F k k x kx) := by
  refine ⟨laws_eqInt64SS_l0_h, [(0, laws_eqInt64SS_l0_x0)], fun n x kx => laws_eqInt64SS_l0_F k n x kx, k, by kernel_rfl, by kernel_rfl, fun x kx => by kernel_rfl, ?_, fun σ kx => rfl⟩
  rintro n ⟨⟨a0, b1, i5, ⟨⟩⟩, ⟨⟩, ⟨⟩⟩ kx
  kernel_rfl
theorem ok_laws_eqInt64SS (k : Nat) : FnOK Tryd.prog 27 (fe_laws_eqInt64SS k) := by
  refine closed_ok (tab := [(53, fe_laws_eqInt64S k)]) (l := []) ti_ok ti_ht mix (List.forall_mem_cons.2 ⟨ok_laws_eqInt64S k, (List.forall_mem_nil _)⟩) (List.forall_mem_nil _) ⟨⟨Tryd.f27, (codeOf Tryd.f27), [.tmp 4], (laws_eqInt64SS_O k), by kernel_rfl, by kernel_rfl, by kernel_rfl, by kernel_rfl, rfl, by decide, ⟨by kernel_rfl, ?_, ?_⟩, ?_⟩⟩
  · refine loops_of (n := 1) (by kernel_rfl) fun i hi => ?_
    match i, hi with
    | 0, _ => exact loop_of (by kernel_rfl) (laws_eqInt64SS_l0_ok k)
    | n + 1, hi => omega
  · exact no_cuts (by kernel_rfl)
  · rintro ⟨a0, b1⟩
    kernel_rfl
end
end Go.Proofs.YtpliblemabkikaaDoor.Ev
