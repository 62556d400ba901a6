/- Functions of the program, as plain ones. No conditions. -/
import Derived.Test.YtnlpjpfpjnmjmaaG3
import Derived.KernelRfl
set_option linter.unusedVariables false
set_option maxRecDepth 100000
namespace Go.Proofs.Ytnlpjpfpjnmjmaa.Ev
open Go.RowKit
noncomputable section
/- 19 loop.example/g01005/impl.facets -/
def impl_facets_l0 (k : Nat) : Nat → Int → Int → (List Int) → (List (List Int)) → ((List Int) → Option (List Int)) → Option (List Int)
  | 0, _, _, _, _, _ => none
  | n + 1, x7, x8, q_2, v_1, e_0 => (if (decide (x8 < x7)) = true then (impl_starOf k v_1 x8).bind fun r_3 => (if (decide ((List.length r_3 : Int) = 1)) = true then (if (q_2.length + [x8].length) * 8 ≤ LIM then impl_facets_l0 k n x7 (w_i64 (x8 + 1)) (q_2 ++ [x8]) v_1 e_0 else none) else impl_facets_l0 k n x7 (w_i64 (x8 + 1)) q_2 v_1 e_0) else e_0 q_2)
def impl_facets (k : Nat) (c0 : List (List Int)) : Option (List Int) := (impl_size_int64 c0).bind fun r_1 => impl_facets_l0 k k r_1 0 [] c0 (fun q_4 => some q_4)
def impl_facets_l0_h : Head := ⟨[(1, (.bp 1 [] 0)), (3, (.ref 64000000 [])), (7, (.val (.int .i64))), (8, (.val (.int .i64)))], [(64000000, 2, (.int .i64), false)], [(1, 29, (.val (.st (.sl 43 (.sl 2 (.int .i64))))))]⟩
def impl_facets_l0_x0 : Head := ⟨[(3, (.ref 64000000 []))], [(64000000, 2, (.int .i64), false)], []⟩
def impl_facets_l0_F (k n : Nat) (x : impl_facets_l0_h.T) (kx : Nat → St → Option (List Int)) : Option (List Int) := impl_facets_l0 k n x.1.2.2.1 x.1.2.2.2.1 x.2.1.1 x.2.2.1 (fun (q_4 : List Int) => kx 0 (impl_facets_l0_x0.fill (((), ()), (q_4, ()), ())))
def impl_facets_O (k : Nat) : Oracles (List Int) := ⟨fun n => bif Nat.beq n 3 then some (fun σ kx => impl_facets_l0_h.get σ fun x => impl_facets_l0_F k k x kx) else none, fun _ => none⟩
def fe_impl_facets (k : Nat) : FE := ⟨(.st (.sl 43 (.sl 2 (.int .i64)))), 1, (.sl 2 (.int .i64)), fun x => impl_facets k x⟩
theorem impl_facets_l0_ok (k : Nat) : LoopOK (mkEnv ti [(40, fe_impl_size_int64), (41, fe_impl_starOf k)] (lk []) pins0 pinB0) (impl_facets_O k) (rdC (mkEnv ti [(40, fe_impl_size_int64), (41, fe_impl_starOf k)] (lk []) pins0 pinB0) [.tmp 2] (.sl 2 (.int .i64))) ((loopsOf (codeOf Try.f19)).getD 0 .skip) (fun σ kx => impl_facets_l0_h.get σ fun x => impl_facets_l0_F k k x kx) := by
  refine ⟨impl_facets_l0_h, [(0, impl_facets_l0_x0)], fun n x kx => impl_facets_l0_F k n x kx, k, by kernel_rfl, by kernel_rfl, fun x kx => by kernel_rfl, ?_, fun σ kx => rfl⟩
  rintro n ⟨⟨⟨⟩, ⟨⟩, x7, x8, ⟨⟩⟩, ⟨q_2, ⟨⟩⟩, ⟨v_1, ⟨⟩⟩⟩ kx
  kernel_rfl
theorem ok_impl_facets (k : Nat) : FnOK Try.prog 19 (fe_impl_facets k) := by
  refine closed_ok (tab := [(40, fe_impl_size_int64), (41, fe_impl_starOf k)]) (l := []) ti_ok ti_ht mix (List.forall_mem_cons.2 ⟨ok_impl_size_int64, (List.forall_mem_cons.2 ⟨ok_impl_starOf k, (List.forall_mem_nil _)⟩)⟩) (List.forall_mem_nil _) ⟨⟨Try.f19, (codeOf Try.f19), [.tmp 2], (impl_facets_O k), by kernel_rfl, by kernel_rfl, by kernel_rfl, by kernel_rfl, rfl, by decide, ⟨by kernel_rfl, ?_, ?_⟩, ?_⟩⟩
  · refine loops_of (n := 1) (by kernel_rfl) fun i hi => ?_
    match i, hi with
    | 0, _ => exact loop_of (by kernel_rfl) (impl_facets_l0_ok k)
    | n + 1, hi => omega
  · exact no_cuts (by kernel_rfl)
  · rintro c0
    kernel_rfl
/- 20 strings.Repeat (off the shelf) -/
def strings_Repeat (s : List UInt8) (c : Int) : Option (List UInt8) := if 0 ≤ c ∧ c ≤ 9223372036854775807 ∧ List.length s * c.toNat ≤ 140737488355328 then some (Lib.repeatL s c.toNat) else none
abbrev fe_strings_Repeat : FE := fe_repeat
theorem ok_strings_Repeat : FnOK Try.prog 20 fe_strings_Repeat := ok_repeat (fn := Try.f20) (cd := codeOf Try.f20) (by kernel_rfl) (by kernel_rfl) (by kernel_rfl) (fun s c w h1 h2 => Go.Proofs.Try.strings_Repeat s c w h1 h2)
/- 21 loop.example/g01005/impl.pictured -/
def impl_pictured_l0 (k : Nat) : Nat → (List (List UInt8)) → Int → (List (List UInt8)) → Int → Int → ((List (List UInt8)) → Int → Option (List (List UInt8) × Int)) → Option (List (List UInt8) × Int)
  | 0, _, _, _, _, _, _ => none
  | n + 1, lines0, width4, x10, x11, x12, e_0 => (if (decide (x12 < x11)) = true then (if 0 ≤ x12 then (x10[x12.toNat]?).bind fun y_1 => impl_pictured_l0 k n lines0 (if width4 < (List.length y_1 : Int) then (List.length y_1 : Int) else width4) x10 x11 (w_i64 (x12 + 1)) e_0 else none) else e_0 lines0 width4)
def impl_pictured_l1 (k : Nat) : Nat → Int → (List (List UInt8)) → Int → Int → (List (List UInt8)) → (Int → (List (List UInt8)) → Option (List (List UInt8) × Int)) → Option (List (List UInt8) × Int)
  | 0, _, _, _, _, _, _ => none
  | n + 1, width4, x21, x22, x23, q_4, e_2 => (if (decide (x23 < x22)) = true then (if 0 ≤ x23 then (x21[x23.toNat]?).bind fun y_5 => (strings_Repeat [32] (w_i64 (width4 - (List.length y_5 : Int)))).bind fun r_6 => (if y_5.length + r_6.length ≤ 9223372036854775807 then (if (q_4.length + [(y_5 ++ r_6)].length) * 16 ≤ LIM then impl_pictured_l1 k n width4 x21 x22 (w_i64 (x23 + 1)) (q_4 ++ [(y_5 ++ r_6)]) e_2 else none) else none) else none) else e_2 width4 q_4)
def impl_pictured (k : Nat) (lines0 : List (List UInt8)) : Option (List (List UInt8) × Int) := impl_pictured_l0 k k lines0 0 lines0 (List.length lines0 : Int) 0 (fun lines_2 width_3 => impl_pictured_l1 k k width_3 lines_2 (List.length lines_2 : Int) 0 [] (fun width_7 q_8 => (if (decide (60 < (List.length q_8 : Int))) = true then some ([], 5) else (if (decide (80 < width_7)) = true then some ([], 5) else some (q_8, 0)))))
def impl_pictured_l0_h : Head := ⟨[(0, (.val (.sl 9 .str))), (4, (.val (.int .i64))), (10, (.val (.sl 9 .str))), (11, (.val (.int .i64))), (12, (.val (.int .i64)))], [], []⟩
def impl_pictured_l0_x0 : Head := ⟨[(0, (.val (.sl 9 .str))), (4, (.val (.int .i64)))], [], []⟩
def impl_pictured_l0_F (k n : Nat) (x : impl_pictured_l0_h.T) (kx : Nat → St → Option (List (List UInt8) × Int)) : Option (List (List UInt8) × Int) := impl_pictured_l0 k n x.1.1 x.1.2.1 x.1.2.2.1 x.1.2.2.2.1 x.1.2.2.2.2.1 (fun (lines0 : List (List UInt8)) (width4 : Int) => kx 0 (impl_pictured_l0_x0.fill ((lines0, width4, ()), (), ())))
def impl_pictured_l1_h : Head := ⟨[(4, (.val (.int .i64))), (7, (.ref 64000000 [])), (21, (.val (.sl 9 .str))), (22, (.val (.int .i64))), (23, (.val (.int .i64)))], [(64000000, 9, .str, false)], []⟩
def impl_pictured_l1_x2 : Head := ⟨[(4, (.val (.int .i64))), (7, (.ref 64000000 []))], [(64000000, 9, .str, false)], []⟩
def impl_pictured_l1_F (k n : Nat) (x : impl_pictured_l1_h.T) (kx : Nat → St → Option (List (List UInt8) × Int)) : Option (List (List UInt8) × Int) := impl_pictured_l1 k n x.1.1 x.1.2.2.1 x.1.2.2.2.1 x.1.2.2.2.2.1 x.2.1.1 (fun (width4 : Int) (q_7 : List (List UInt8)) => kx 2 (impl_pictured_l1_x2.fill ((width4, (), ()), (q_7, ()), ())))
def impl_pictured_O (k : Nat) : Oracles (List (List UInt8) × Int) := ⟨fun n => bif Nat.beq n 3 then some (fun σ kx => impl_pictured_l0_h.get σ fun x => impl_pictured_l0_F k k x kx) else bif Nat.beq n 9 then some (fun σ kx => impl_pictured_l1_h.get σ fun x => impl_pictured_l1_F k k x kx) else none, fun _ => none⟩
def fe_impl_pictured (k : Nat) : FE := ⟨(.sl 9 .str), 2, (.pr (.sl 9 .str) (.int .i64)), fun x => impl_pictured k x⟩
theorem impl_pictured_l0_ok (k : Nat) : LoopOK (mkEnv ti [(20, fe_strings_Repeat)] (lk []) pins0 pinB0) (impl_pictured_O k) (rdC (mkEnv ti [(20, fe_strings_Repeat)] (lk []) pins0 pinB0) [.tmp 2, .tmp 3] (.pr (.sl 9 .str) (.int .i64))) ((loopsOf (codeOf Try.f21)).getD 0 .skip) (fun σ kx => impl_pictured_l0_h.get σ fun x => impl_pictured_l0_F k k x kx) := by
  refine ⟨impl_pictured_l0_h, [(0, impl_pictured_l0_x0)], fun n x kx => impl_pictured_l0_F k n x kx, k, by kernel_rfl, by kernel_rfl, fun x kx => by kernel_rfl, ?_, fun σ kx => rfl⟩
  rintro n ⟨⟨lines0, width4, x10, x11, x12, ⟨⟩⟩, ⟨⟩, ⟨⟩⟩ kx
  kernel_rfl
theorem impl_pictured_l1_ok (k : Nat) : LoopOK (mkEnv ti [(20, fe_strings_Repeat)] (lk []) pins0 pinB0) (impl_pictured_O k) (rdC (mkEnv ti [(20, fe_strings_Repeat)] (lk []) pins0 pinB0) [.tmp 2, .tmp 3] (.pr (.sl 9 .str) (.int .i64))) ((loopsOf (codeOf Try.f21)).getD 1 .skip) (fun σ kx => impl_pictured_l1_h.get σ fun x => impl_pictured_l1_F k k x kx) := by
  refine ⟨impl_pictured_l1_h, [(2, impl_pictured_l1_x2)], fun n x kx => impl_pictured_l1_F k n x kx, k, by kernel_rfl, by kernel_rfl, fun x kx => by kernel_rfl, ?_, fun σ kx => rfl⟩
  rintro n ⟨⟨width4, ⟨⟩, x21, x22, x23, ⟨⟩⟩, ⟨q_4, ⟨⟩⟩, ⟨⟩⟩ kx
  kernel_rfl
theorem ok_impl_pictured (k : Nat) : FnOK Try.prog 21 (fe_impl_pictured k) := by
  refine closed_ok (tab := [(20, fe_strings_Repeat)]) (l := []) ti_ok ti_ht mix (List.forall_mem_cons.2 ⟨ok_strings_Repeat, (List.forall_mem_nil _)⟩) (List.forall_mem_nil _) ⟨⟨Try.f21, (codeOf Try.f21), [.tmp 2, .tmp 3], (impl_pictured_O k), by kernel_rfl, by kernel_rfl, by kernel_rfl, by kernel_rfl, rfl, by decide, ⟨by kernel_rfl, ?_, ?_⟩, ?_⟩⟩
  · refine loops_of (n := 2) (by kernel_rfl) fun i hi => ?_
    match i, hi with
    | 0, _ => exact loop_of (by kernel_rfl) (impl_pictured_l0_ok k)
    | 1, _ => exact loop_of (by kernel_rfl) (impl_pictured_l1_ok k)
    | n + 2, hi => omega
  · exact no_cuts (by kernel_rfl)
  · rintro lines0
    kernel_rfl
/- 7 loop.example/g01005/impl.IncidencePicture -/
def impl_IncidencePicture_l1 (k : Nat) : Nat → Int → Int → (List Int) → Int → Int → (List (List UInt8)) → (List Int) → (List Int) → (List (List Int)) → (Int → Int → (List (List UInt8)) → (List Int) → (List Int) → (List (List Int)) → Option (List (List UInt8) × Int)) → Option (List (List UInt8) × Int)
  | 0, _, _, _, _, _, _, _, _, _, _ => none
  | n + 1, x15, x16, x26, x27, x28, q_8, q_9, q_10, v_1, e_2 => (if (decide (x28 < x27)) = true then (if 0 ≤ x28 then (x26[x28.toNat]?).bind fun y_11 => (if 0 ≤ y_11 ∧ y_11.toNat < List.length q_9 then (q_9[y_11.toNat]?).bind fun y_12 => (q_9[y_11.toNat]?).bind fun y_13 => impl_IncidencePicture_l1 k n x15 x16 x26 x27 (w_i64 (x28 + 1)) q_8 (q_9.set y_11.toNat 35) q_10 v_1 e_2 else none) else none) else e_2 x15 x16 q_8 q_9 q_10 v_1)
def impl_IncidencePicture_l0 (k : Nat) : Nat → Int → Int → (List (List UInt8)) → (List Int) → (List (List Int)) → ((List (List UInt8)) → Option (List (List UInt8) × Int)) → Option (List (List UInt8) × Int)
  | 0, _, _, _, _, _, _ => none
  | n + 1, x15, x16, q_3, q_4, v_1, e_0 => (if (decide (x16 < x15)) = true then (if 0 ≤ x16 ∧ x16.toNat < List.length q_4 then (q_4[x16.toNat]?).bind fun y_5 => (strings_Repeat [46] 10).bind fun r_6 => (if r_6.length ≤ LIM then (if 0 ≤ y_5 then (v_1[y_5.toNat]?).bind fun y_7 => impl_IncidencePicture_l1 k k x15 x16 y_7 (List.length y_7 : Int) 0 q_3 (of_S r_6) q_4 v_1 (fun x_8 x_9 q_10 q_11 q_12 v_13 => (if (q_10.length + [(to_S q_11)].length) * 16 ≤ LIM then impl_IncidencePicture_l0 k n x_8 (w_i64 (x_9 + 1)) (q_10 ++ [(to_S q_11)]) q_12 v_13 e_0 else none)) else none) else none) else none) else e_0 q_3)
def impl_IncidencePicture (k : Nat) (c0 : List (List Int)) : Option (List (List UInt8) × Int) := (impl_ValidComplex k c0).bind fun r_1 => (if (!r_1) = true then some ([], 1) else (impl_facets k c0).bind fun r_2 => impl_IncidencePicture_l0 k k (List.length r_2 : Int) 0 [] r_2 c0 (fun q_14 => (impl_pictured k q_14).bind fun r_15 => some (r_15.1, r_15.2)))
def impl_IncidencePicture_l1_h : Head := ⟨[(1, (.bp 1 [] 0)), (4, (.ref 64000000 [])), (7, (.ref 64000001 [])), (14, (.ref 64000002 [])), (15, (.val (.int .i64))), (16, (.val (.int .i64))), (26, (.val (.sl 2 (.int .i64)))), (27, (.val (.int .i64))), (28, (.val (.int .i64)))], [(64000000, 9, .str, false), (64000001, 5, (.int .u8), true), (64000002, 2, (.int .i64), false)], [(1, 29, (.val (.st (.sl 43 (.sl 2 (.int .i64))))))]⟩
def impl_IncidencePicture_l1_x2 : Head := ⟨[(1, (.bp 1 [] 0)), (4, (.ref 64000000 [])), (7, (.ref 64000001 [])), (14, (.ref 64000002 [])), (15, (.val (.int .i64))), (16, (.val (.int .i64)))], [(64000000, 9, .str, false), (64000001, 5, (.int .u8), true), (64000002, 2, (.int .i64), false)], [(1, 29, (.val (.st (.sl 43 (.sl 2 (.int .i64))))))]⟩
def impl_IncidencePicture_l1_F (k n : Nat) (x : impl_IncidencePicture_l1_h.T) (kx : Nat → St → Option (List (List UInt8) × Int)) : Option (List (List UInt8) × Int) := impl_IncidencePicture_l1 k n x.1.2.2.2.2.1 x.1.2.2.2.2.2.1 x.1.2.2.2.2.2.2.1 x.1.2.2.2.2.2.2.2.1 x.1.2.2.2.2.2.2.2.2.1 x.2.1.1 x.2.1.2.1 x.2.1.2.2.1 x.2.2.1 (fun (x15 : Int) (x16 : Int) (q_14 : List (List UInt8)) (q_15 : List Int) (q_16 : List Int) (v_1 : List (List Int)) => kx 2 (impl_IncidencePicture_l1_x2.fill (((), (), (), (), x15, x16, ()), (q_14, q_15, q_16, ()), (v_1, ()))))
def impl_IncidencePicture_l0_h : Head := ⟨[(1, (.bp 1 [] 0)), (4, (.ref 64000000 [])), (14, (.ref 64000001 [])), (15, (.val (.int .i64))), (16, (.val (.int .i64)))], [(64000000, 9, .str, false), (64000001, 2, (.int .i64), false)], [(1, 29, (.val (.st (.sl 43 (.sl 2 (.int .i64))))))]⟩
def impl_IncidencePicture_l0_x0 : Head := ⟨[(4, (.ref 64000000 []))], [(64000000, 9, .str, false)], []⟩
def impl_IncidencePicture_l0_F (k n : Nat) (x : impl_IncidencePicture_l0_h.T) (kx : Nat → St → Option (List (List UInt8) × Int)) : Option (List (List UInt8) × Int) := impl_IncidencePicture_l0 k n x.1.2.2.2.1 x.1.2.2.2.2.1 x.2.1.1 x.2.1.2.1 x.2.2.1 (fun (q_20 : List (List UInt8)) => kx 0 (impl_IncidencePicture_l0_x0.fill (((), ()), (q_20, ()), ())))
def impl_IncidencePicture_O (k : Nat) : Oracles (List (List UInt8) × Int) := ⟨fun n => bif Nat.beq n 9 then some (fun σ kx => impl_IncidencePicture_l1_h.get σ fun x => impl_IncidencePicture_l1_F k k x kx) else bif Nat.beq n 5 then some (fun σ kx => impl_IncidencePicture_l0_h.get σ fun x => impl_IncidencePicture_l0_F k k x kx) else none, fun _ => none⟩
def fe_impl_IncidencePicture (k : Nat) : FE := ⟨(.st (.sl 43 (.sl 2 (.int .i64)))), 2, (.pr (.sl 9 .str) (.int .i64)), fun x => impl_IncidencePicture k x⟩
theorem impl_IncidencePicture_l1_ok (k : Nat) : LoopOK (mkEnv ti [(18, fe_impl_ValidComplex k), (19, fe_impl_facets k), (20, fe_strings_Repeat), (21, fe_impl_pictured k)] (lk []) pins0 pinB0) (impl_IncidencePicture_O k) (rdC (mkEnv ti [(18, fe_impl_ValidComplex k), (19, fe_impl_facets k), (20, fe_strings_Repeat), (21, fe_impl_pictured k)] (lk []) pins0 pinB0) [.tmp 2, .tmp 3] (.pr (.sl 9 .str) (.int .i64))) ((loopsOf (codeOf Try.f7)).getD 1 .skip) (fun σ kx => impl_IncidencePicture_l1_h.get σ fun x => impl_IncidencePicture_l1_F k k x kx) := by
  refine ⟨impl_IncidencePicture_l1_h, [(2, impl_IncidencePicture_l1_x2)], fun n x kx => impl_IncidencePicture_l1_F k n x kx, k, by kernel_rfl, by kernel_rfl, fun x kx => by kernel_rfl, ?_, fun σ kx => rfl⟩
  rintro n ⟨⟨⟨⟩, ⟨⟩, ⟨⟩, ⟨⟩, x15, x16, x26, x27, x28, ⟨⟩⟩, ⟨q_8, q_9, q_10, ⟨⟩⟩, ⟨v_1, ⟨⟩⟩⟩ kx
  kernel_rfl
theorem impl_IncidencePicture_l0_ok (k : Nat) : LoopOK (mkEnv ti [(18, fe_impl_ValidComplex k), (19, fe_impl_facets k), (20, fe_strings_Repeat), (21, fe_impl_pictured k)] (lk []) pins0 pinB0) (impl_IncidencePicture_O k) (rdC (mkEnv ti [(18, fe_impl_ValidComplex k), (19, fe_impl_facets k), (20, fe_strings_Repeat), (21, fe_impl_pictured k)] (lk []) pins0 pinB0) [.tmp 2, .tmp 3] (.pr (.sl 9 .str) (.int .i64))) ((loopsOf (codeOf Try.f7)).getD 0 .skip) (fun σ kx => impl_IncidencePicture_l0_h.get σ fun x => impl_IncidencePicture_l0_F k k x kx) := by
  refine ⟨impl_IncidencePicture_l0_h, [(0, impl_IncidencePicture_l0_x0)], fun n x kx => impl_IncidencePicture_l0_F k n x kx, k, by kernel_rfl, by kernel_rfl, fun x kx => by kernel_rfl, ?_, fun σ kx => rfl⟩
  rintro n ⟨⟨⟨⟩, ⟨⟩, ⟨⟩, x15, x16, ⟨⟩⟩, ⟨q_3, q_4, ⟨⟩⟩, ⟨v_1, ⟨⟩⟩⟩ kx
  kernel_rfl
theorem ok_impl_IncidencePicture (k : Nat) : FnOK Try.prog 7 (fe_impl_IncidencePicture k) := by
  refine closed_ok (tab := [(18, fe_impl_ValidComplex k), (19, fe_impl_facets k), (20, fe_strings_Repeat), (21, fe_impl_pictured k)]) (l := []) ti_ok ti_ht mix (List.forall_mem_cons.2 ⟨ok_impl_ValidComplex k, (List.forall_mem_cons.2 ⟨ok_impl_facets k, (List.forall_mem_cons.2 ⟨ok_strings_Repeat, (List.forall_mem_cons.2 ⟨ok_impl_pictured k, (List.forall_mem_nil _)⟩)⟩)⟩)⟩) (List.forall_mem_nil _) ⟨⟨Try.f7, (codeOf Try.f7), [.tmp 2, .tmp 3], (impl_IncidencePicture_O k), by kernel_rfl, by kernel_rfl, by kernel_rfl, by kernel_rfl, rfl, by decide, ⟨by kernel_rfl, ?_, ?_⟩, ?_⟩⟩
  · refine loops_of (n := 2) (by kernel_rfl) fun i hi => ?_
    match i, hi with
    | 0, _ => exact loop_of (by kernel_rfl) (impl_IncidencePicture_l0_ok k)
    | 1, _ => exact loop_of (by kernel_rfl) (impl_IncidencePicture_l1_ok k)
    | n + 2, hi => omega
  · exact no_cuts (by kernel_rfl)
  · rintro c0
    kernel_rfl
/- 8 loop.example/g01005/laws.eqStringS -/
def laws_eqStringS_l0 (k : Nat) : Nat → (List (List UInt8)) → (List (List UInt8)) → Int → (Option Bool) → Option Bool
  | 0, _, _, _, _ => none
  | n + 1, a0, b1, i5, e_0 => (if (decide (i5 < (List.length a0 : Int))) = true then (if 0 ≤ i5 then (a0[i5.toNat]?).bind fun y_1 => (if 0 ≤ i5 then (b1[i5.toNat]?).bind fun y_2 => (if (!(decide (y_1 = y_2))) = true then some false else laws_eqStringS_l0 k n a0 b1 (w_i64 (i5 + 1)) e_0) else none) else none) else e_0)
def laws_eqStringS (k : Nat) (a0 : List (List UInt8)) (b1 : List (List UInt8)) : Option Bool := (if (!(decide ((List.length a0 : Int) = (List.length b1 : Int)))) = true then some false else laws_eqStringS_l0 k k a0 b1 0 (some true))
def laws_eqStringS_l0_h : Head := ⟨[(0, (.val (.sl 9 .str))), (1, (.val (.sl 9 .str))), (5, (.val (.int .i64)))], [], []⟩
def laws_eqStringS_l0_x0 : Head := ⟨[], [], []⟩
def laws_eqStringS_l0_F (k n : Nat) (x : laws_eqStringS_l0_h.T) (kx : Nat → St → Option Bool) : Option Bool := laws_eqStringS_l0 k n x.1.1 x.1.2.1 x.1.2.2.1 (kx 0 (laws_eqStringS_l0_x0.fill ((), (), ())))
def laws_eqStringS_O (k : Nat) : Oracles Bool := ⟨fun n => bif Nat.beq n 4 then some (fun σ kx => laws_eqStringS_l0_h.get σ fun x => laws_eqStringS_l0_F k k x kx) else none, fun _ => none⟩
def fe_laws_eqStringS (k : Nat) : FE := ⟨(.pr (.sl 9 .str) (.sl 9 .str)), 1, .bool, fun x => laws_eqStringS k x.1 x.2⟩
theorem laws_eqStringS_l0_ok (k : Nat) : LoopOK (mkEnv ti [] (lk []) pins0 pinB0) (laws_eqStringS_O k) (rdC (mkEnv ti [] (lk []) pins0 pinB0) [.tmp 4] .bool) ((loopsOf (codeOf Try.f8)).getD 0 .skip) (fun σ kx => laws_eqStringS_l0_h.get σ fun x => laws_eqStringS_l0_F k k x kx) := by
  refine ⟨laws_eqStringS_l0_h, [(0, laws_eqStringS_l0_x0)], fun n x kx => laws_eqStringS_l0_F k n x kx, k, by kernel_rfl, by kernel_rfl, fun x kx => by kernel_rfl, ?_, fun σ kx => rfl⟩
  rintro n ⟨⟨a0, b1, i5, ⟨⟩⟩, ⟨⟩, ⟨⟩⟩ kx
  kernel_rfl
theorem ok_laws_eqStringS (k : Nat) : FnOK Try.prog 8 (fe_laws_eqStringS k) := by
  refine closed_ok (tab := []) (l := []) ti_ok ti_ht mix (List.forall_mem_nil _) (List.forall_mem_nil _) ⟨⟨Try.f8, (codeOf Try.f8), [.tmp 4], (laws_eqStringS_O k), by kernel_rfl, by kernel_rfl, by kernel_rfl, by kernel_rfl, rfl, by decide, ⟨by kernel_rfl, ?_, ?_⟩, ?_⟩⟩
  · refine loops_of (n := 1) (by kernel_rfl) fun i hi => ?_
    match i, hi with
    | 0, _ => exact loop_of (by kernel_rfl) (laws_eqStringS_l0_ok k)
    | n + 1, hi => omega
  · exact no_cuts (by kernel_rfl)
  · rintro ⟨a0, b1⟩
    kernel_rfl
/- 48 loop.example/g01005/laws.eqInt64S -/
def laws_eqInt64S_l0 (k : Nat) : Nat → (List Int) → (List Int) → Int → (Option Bool) → Option Bool
  | 0, _, _, _, _ => none
  | n + 1, a0, b1, i5, e_0 => (if (decide (i5 < (List.length a0 : Int))) = true then (if 0 ≤ i5 then (a0[i5.toNat]?).bind fun y_1 => (if 0 ≤ i5 then (b1[i5.toNat]?).bind fun y_2 => (if (!(decide (y_1 = y_2))) = true then some false else laws_eqInt64S_l0 k n a0 b1 (w_i64 (i5 + 1)) e_0) else none) else none) else e_0)
def laws_eqInt64S (k : Nat) (a0 : List Int) (b1 : List Int) : Option Bool := (if (!(decide ((List.length a0 : Int) = (List.length b1 : Int)))) = true then some false else laws_eqInt64S_l0 k k a0 b1 0 (some true))
def laws_eqInt64S_l0_h : Head := ⟨[(0, (.val (.sl 2 (.int .i64)))), (1, (.val (.sl 2 (.int .i64)))), (5, (.val (.int .i64)))], [], []⟩
def laws_eqInt64S_l0_x0 : Head := ⟨[], [], []⟩
def laws_eqInt64S_l0_F (k n : Nat) (x : laws_eqInt64S_l0_h.T) (kx : Nat → St → Option Bool) : Option Bool := laws_eqInt64S_l0 k n x.1.1 x.1.2.1 x.1.2.2.1 (kx 0 (laws_eqInt64S_l0_x0.fill ((), (), ())))
def laws_eqInt64S_O (k : Nat) : Oracles Bool := ⟨fun n => bif Nat.beq n 4 then some (fun σ kx => laws_eqInt64S_l0_h.get σ fun x => laws_eqInt64S_l0_F k k x kx) else none, fun _ => none⟩
def fe_laws_eqInt64S (k : Nat) : FE := ⟨(.pr (.sl 2 (.int .i64)) (.sl 2 (.int .i64))), 1, .bool, fun x => laws_eqInt64S k x.1 x.2⟩
theorem laws_eqInt64S_l0_ok (k : Nat) : LoopOK (mkEnv ti [] (lk []) pins0 pinB0) (laws_eqInt64S_O k) (rdC (mkEnv ti [] (lk []) pins0 pinB0) [.tmp 4] .bool) ((loopsOf (codeOf Try.f48)).getD 0 .skip) (fun σ kx => laws_eqInt64S_l0_h.get σ fun x => laws_eqInt64S_l0_F k k x kx) := by
  refine ⟨laws_eqInt64S_l0_h, [(0, laws_eqInt64S_l0_x0)], fun n x kx => laws_eqInt64S_l0_F k n x kx, k, by kernel_rfl, by kernel_rfl, fun x kx => by kernel_rfl, ?_, fun σ kx => rfl⟩
  rintro n ⟨⟨a0, b1, i5, ⟨⟩⟩, ⟨⟩, ⟨⟩⟩ kx
  kernel_rfl
theorem ok_laws_eqInt64S (k : Nat) : FnOK Try.prog 48 (fe_laws_eqInt64S k) := by
  refine closed_ok (tab := []) (l := []) ti_ok ti_ht mix (List.forall_mem_nil _) (List.forall_mem_nil _) ⟨⟨Try.f48, (codeOf Try.f48), [.tmp 4], (laws_eqInt64S_O k), by kernel_rfl, by kernel_rfl, by kernel_rfl, by kernel_rfl, rfl, by decide, ⟨by kernel_rfl, ?_, ?_⟩, ?_⟩⟩
  · refine loops_of (n := 1) (by kernel_rfl) fun i hi => ?_
    match i, hi with
    | 0, _ => exact loop_of (by kernel_rfl) (laws_eqInt64S_l0_ok k)
    | n + 1, hi => omega
  · exact no_cuts (by kernel_rfl)
  · rintro ⟨a0, b1⟩
    kernel_rfl
/- 22 loop.example/g01005/laws.eqInt64SS -/
def laws_eqInt64SS_l0 (k : Nat) : Nat → (List (List Int)) → (List (List Int)) → Int → (Option Bool) → Option Bool
  | 0, _, _, _, _ => none
  | n + 1, a0, b1, i5, e_0 => (if (decide (i5 < (List.length a0 : Int))) = true then (if 0 ≤ i5 then (a0[i5.toNat]?).bind fun y_1 => (if 0 ≤ i5 then (b1[i5.toNat]?).bind fun y_2 => (laws_eqInt64S k y_1 y_2).bind fun r_3 => (if (!r_3) = true then some false else laws_eqInt64SS_l0 k n a0 b1 (w_i64 (i5 + 1)) e_0) else none) else none) else e_0)
def laws_eqInt64SS (k : Nat) (a0 : List (List Int)) (b1 : List (List Int)) : Option Bool := (if (!(decide ((List.length a0 : Int) = (List.length b1 : Int)))) = true then some false else laws_eqInt64SS_l0 k k a0 b1 0 (some true))
def laws_eqInt64SS_l0_h : Head := ⟨[(0, (.val (.sl 43 (.sl 2 (.int .i64))))), (1, (.val (.sl 43 (.sl 2 (.int .i64))))), (5, (.val (.int .i64)))], [], []⟩
def laws_eqInt64SS_l0_x0 : Head := ⟨[], [], []⟩
def laws_eqInt64SS_l0_F (k n : Nat) (x : laws_eqInt64SS_l0_h.T) (kx : Nat → St → Option Bool) : Option Bool := laws_eqInt64SS_l0 k n x.1.1 x.1.2.1 x.1.2.2.1 (kx 0 (laws_eqInt64SS_l0_x0.fill ((), (), ())))
def laws_eqInt64SS_O (k : Nat) : Oracles Bool := ⟨fun n => bif Nat.beq n 4 then some (fun σ kx => laws_eqInt64SS_l0_h.get σ fun x => laws_eqInt64SS_l0_F k k x kx) else none, fun _ => none⟩
def fe_laws_eqInt64SS (k : Nat) : FE := ⟨(.pr (.sl 43 (.sl 2 (.int .i64))) (.sl 43 (.sl 2 (.int .i64)))), 1, .bool, fun x => laws_eqInt64SS k x.1 x.2⟩
theorem laws_eqInt64SS_l0_ok (k : Nat) : LoopOK (mkEnv ti [(48, fe_laws_eqInt64S k)] (lk []) pins0 pinB0) (laws_eqInt64SS_O k) (rdC (mkEnv ti [(48, fe_laws_eqInt64S k)] (lk []) pins0 pinB0) [.tmp 4] .bool) ((loopsOf (codeOf Try.f22)).getD 0 .skip) (fun σ kx => laws_eqInt64SS_l0_h.get σ fun x => laws_eqInt64SS_l0_F k k x kx) := by
  refine ⟨laws_eqInt64SS_l0_h, [(0, laws_eqInt64SS_l0_x0)], fun n x kx => laws_eqInt64SS_l0_F k n x kx, k, by kernel_rfl, by kernel_rfl, fun x kx => by kernel_rfl, ?_, fun σ kx => rfl⟩
  rintro n ⟨⟨a0, b1, i5, ⟨⟩⟩, ⟨⟩, ⟨⟩⟩ kx
  kernel_rfl
theorem ok_laws_eqInt64SS (k : Nat) : FnOK Try.prog 22 (fe_laws_eqInt64SS k) := by
  refine closed_ok (tab := [(48, fe_laws_eqInt64S k)]) (l := []) ti_ok ti_ht mix (List.forall_mem_cons.2 ⟨ok_laws_eqInt64S k, (List.forall_mem_nil _)⟩) (List.forall_mem_nil _) ⟨⟨Try.f22, (codeOf Try.f22), [.tmp 4], (laws_eqInt64SS_O k), by kernel_rfl, by kernel_rfl, by kernel_rfl, by kernel_rfl, rfl, by decide, ⟨by kernel_rfl, ?_, ?_⟩, ?_⟩⟩
  · refine loops_of (n := 1) (by kernel_rfl) fun i hi => ?_
    match i, hi with
    | 0, _ => exact loop_of (by kernel_rfl) (laws_eqInt64SS_l0_ok k)
    | n + 1, hi => omega
  · exact no_cuts (by kernel_rfl)
  · rintro ⟨a0, b1⟩
    kernel_rfl
/- 9 loop.example/g01005/laws.eqComplex -/
def laws_eqComplex (k : Nat) (a0 : List (List Int)) (b1 : List (List Int)) : Option Bool := (laws_eqInt64SS k a0 b1).bind fun r_1 => (if (!r_1) = true then some false else some true)
def fe_laws_eqComplex (k : Nat) : FE := ⟨(.pr (.st (.sl 43 (.sl 2 (.int .i64)))) (.st (.sl 43 (.sl 2 (.int .i64))))), 1, .bool, fun x => laws_eqComplex k x.1 x.2⟩
theorem ok_laws_eqComplex (k : Nat) : FnOK Try.prog 9 (fe_laws_eqComplex k) := by
  refine closed_ok (tab := [(22, fe_laws_eqInt64SS k)]) (l := []) ti_ok ti_ht mix (List.forall_mem_cons.2 ⟨ok_laws_eqInt64SS k, (List.forall_mem_nil _)⟩) (List.forall_mem_nil _) ⟨⟨Try.f9, (codeOf Try.f9), [.tmp 4], (LOn Bool), by kernel_rfl, by kernel_rfl, by kernel_rfl, by kernel_rfl, rfl, by decide, ⟨by kernel_rfl, ?_, ?_⟩, ?_⟩⟩
  · exact no_loops (by kernel_rfl)
  · exact no_cuts (by kernel_rfl)
  · rintro ⟨a0, b1⟩
    kernel_rfl
/- 49 loop.example/g01005/laws.markInt64S (open) -/
def laws_markInt64S_o_i_LI_l0 (k : Nat) : Nat → Nat → Int → Int → (List (List Int)) → (Int → (List (List Int)) → Option (((Int × Unit) × ((List (List Int)) × Unit) × Unit))) → Option (((Int × Unit) × ((List (List Int)) × Unit) × Unit))
  | 0, _, _, _, _, _ => none
  | n + 1, a0n0, k1, i5, q_2, e_0 => (q_2[a0n0]?).bind fun y_3 => (if (decide (i5 < (List.length y_3 : Int))) = true then (q_2[a0n0]?).bind fun y_4 => (if 0 ≤ i5 ∧ i5.toNat < List.length y_4 then (q_2[a0n0]?).bind fun y_5 => (y_5[i5.toNat]?).bind fun y_6 => (q_2[a0n0]?).bind fun y_7 => (y_7[i5.toNat]?).bind fun y_8 => laws_markInt64S_o_i_LI_l0 k n a0n0 (w_i64 (k1 + 1)) (w_i64 (i5 + 1)) (q_2.set a0n0 (y_7.set i5.toNat k1)) e_0 else none) else e_0 k1 q_2)
def laws_markInt64S_o_i_LI (k : Nat) (a0n0 : Nat) (k1 : Int) (q_1 : List (List Int)) : Option (((Int × Unit) × ((List (List Int)) × Unit) × Unit)) := laws_markInt64S_o_i_LI_l0 k k a0n0 k1 0 q_1 (fun k_9 q_10 => some ((k_9, ()), (q_10, ()), ()))
def laws_markInt64S_o_i_LI_l0_h : Head := ⟨[(0, (.ref 1000000000 [.ix])), (1, (.val (.int .i64))), (5, (.val (.int .i64)))], [(1000000000, 43, (.sl 2 (.int .i64)), false)], []⟩
def laws_markInt64S_o_i_LI_l0_x0 : Head := ⟨[(1, (.val (.int .i64)))], [(1000000000, 43, (.sl 2 (.int .i64)), false)], []⟩
def laws_markInt64S_o_i_LI_l0_F (k n : Nat) (x : laws_markInt64S_o_i_LI_l0_h.T) (kx : Nat → St → Option (((Int × Unit) × ((List (List Int)) × Unit) × Unit))) : Option (((Int × Unit) × ((List (List Int)) × Unit) × Unit)) := laws_markInt64S_o_i_LI_l0 k n x.1.1.1 x.1.2.1 x.1.2.2.1 x.2.1.1 (fun (k1 : Int) (q_9 : List (List Int)) => kx 0 (laws_markInt64S_o_i_LI_l0_x0.fill ((k1, ()), (q_9, ()), ())))
def laws_markInt64S_o_i_LI_O (k : Nat) : Oracles (((Int × Unit) × ((List (List Int)) × Unit) × Unit)) := ⟨fun n => bif Nat.beq n 2 then some (fun σ kx => laws_markInt64S_o_i_LI_l0_h.get σ fun x => laws_markInt64S_o_i_LI_l0_F k k x kx) else none, fun _ => none⟩
def laws_markInt64S_o_i_LI_hi : Head := ⟨[(0, (.ref 1000000000 [.ix])), (1, (.val (.int .i64)))], [(1000000000, 43, (.sl 2 (.int .i64)), false)], []⟩
def laws_markInt64S_o_i_LI_ho : Head := ⟨[(0, (.val (.int .i64)))], [(1000000000, 43, (.sl 2 (.int .i64)), false)], []⟩
def oc_laws_markInt64S_o_i_LI (k : Nat) : OC := ⟨laws_markInt64S_o_i_LI_hi, laws_markInt64S_o_i_LI_ho, fun x => laws_markInt64S_o_i_LI k x.1.1.1 x.1.2.1 x.2.1.1⟩
theorem laws_markInt64S_o_i_LI_l0_ok (k : Nat) (pins : Nat → Value) (pinB : Nat → Nat) : LoopOK (mkEnv ti [] (lk []) pins pinB) (laws_markInt64S_o_i_LI_O k) (rdO (mkEnv ti [] (lk []) pins pinB) [.tmp 4] laws_markInt64S_o_i_LI_ho) ((loopsOf (codeOf Try.f49)).getD 0 .skip) (fun σ kx => laws_markInt64S_o_i_LI_l0_h.get σ fun x => laws_markInt64S_o_i_LI_l0_F k k x kx) := by
  refine ⟨laws_markInt64S_o_i_LI_l0_h, [(0, laws_markInt64S_o_i_LI_l0_x0)], fun n x kx => laws_markInt64S_o_i_LI_l0_F k n x kx, k, by kernel_rfl, by kernel_rfl, fun x kx => by kernel_rfl, ?_, fun σ kx => rfl⟩
  rintro n ⟨⟨⟨a0n0, ⟨⟩⟩, k1, i5, ⟨⟩⟩, ⟨q_2, ⟨⟩⟩, ⟨⟩⟩ kx
  kernel_rfl
theorem ok_laws_markInt64S_o_i_LI (k : Nat) : OpenOK Try.prog ti 49 (oc_laws_markInt64S_o_i_LI k) := by
  refine open_ok (tab := []) (l := []) ti_ok ti_ht mix (List.forall_mem_nil _) (List.forall_mem_nil _) ⟨by kernel_rfl, by kernel_rfl, Try.f49, (codeOf Try.f49), [.tmp 4], (laws_markInt64S_o_i_LI_O k), by kernel_rfl, by kernel_rfl, by kernel_rfl, by kernel_rfl, Nat.le_of_ble_eq_true (by kernel_rfl), fun pins pinB => ⟨⟨by kernel_rfl, ?_, ?_⟩, ?_⟩⟩
  · refine loops_of (n := 1) (by kernel_rfl) fun i hi => ?_
    match i, hi with
    | 0, _ => exact loop_of (by kernel_rfl) (laws_markInt64S_o_i_LI_l0_ok k pins pinB)
    | n + 1, hi => omega
  · exact no_cuts (by kernel_rfl)
  · rintro ⟨⟨⟨a0n0, ⟨⟩⟩, k1, ⟨⟩⟩, ⟨q_1, ⟨⟩⟩, ⟨⟩⟩
    kernel_rfl
/- 23 loop.example/g01005/laws.markInt64SS (open) -/
def laws_markInt64SS_o_l0 (k : Nat) : Nat → Int → Int → (List (List Int)) → (Int → (List (List Int)) → Option (((Int × Unit) × ((List (List Int)) × Unit) × Unit))) → Option (((Int × Unit) × ((List (List Int)) × Unit) × Unit))
  | 0, _, _, _, _ => none
  | n + 1, k1, i5, q_2, e_0 => (if (decide (i5 < (List.length q_2 : Int))) = true then (if 0 ≤ i5 ∧ i5.toNat < List.length q_2 then (q_2[i5.toNat]?).bind fun y_3 => (laws_markInt64S_o_i_LI k i5.toNat k1 q_2).bind fun y_4 => laws_markInt64SS_o_l0 k n y_4.1.1 (w_i64 (i5 + 1)) y_4.2.1.1 e_0 else none) else e_0 k1 q_2)
def laws_markInt64SS_o (k : Nat) (k1 : Int) (q_1 : List (List Int)) : Option (((Int × Unit) × ((List (List Int)) × Unit) × Unit)) := laws_markInt64SS_o_l0 k k k1 0 q_1 (fun k_5 q_6 => some ((k_5, ()), (q_6, ()), ()))
def laws_markInt64SS_o_l0_h : Head := ⟨[(0, (.ref 1000000000 [])), (1, (.val (.int .i64))), (5, (.val (.int .i64)))], [(1000000000, 43, (.sl 2 (.int .i64)), false)], []⟩
def laws_markInt64SS_o_l0_x0 : Head := ⟨[(1, (.val (.int .i64)))], [(1000000000, 43, (.sl 2 (.int .i64)), false)], []⟩
def laws_markInt64SS_o_l0_F (k n : Nat) (x : laws_markInt64SS_o_l0_h.T) (kx : Nat → St → Option (((Int × Unit) × ((List (List Int)) × Unit) × Unit))) : Option (((Int × Unit) × ((List (List Int)) × Unit) × Unit)) := laws_markInt64SS_o_l0 k n x.1.2.1 x.1.2.2.1 x.2.1.1 (fun (k1 : Int) (q_6 : List (List Int)) => kx 0 (laws_markInt64SS_o_l0_x0.fill ((k1, ()), (q_6, ()), ())))
def laws_markInt64SS_o_O (k : Nat) : Oracles (((Int × Unit) × ((List (List Int)) × Unit) × Unit)) := ⟨fun n => bif Nat.beq n 2 then some (fun σ kx => laws_markInt64SS_o_l0_h.get σ fun x => laws_markInt64SS_o_l0_F k k x kx) else none, fun _ => none⟩
def laws_markInt64SS_o_hi : Head := ⟨[(0, (.ref 1000000000 [])), (1, (.val (.int .i64)))], [(1000000000, 43, (.sl 2 (.int .i64)), false)], []⟩
def laws_markInt64SS_o_ho : Head := ⟨[(0, (.val (.int .i64)))], [(1000000000, 43, (.sl 2 (.int .i64)), false)], []⟩
def oc_laws_markInt64SS_o (k : Nat) : OC := ⟨laws_markInt64SS_o_hi, laws_markInt64SS_o_ho, fun x => laws_markInt64SS_o k x.1.2.1 x.2.1.1⟩
theorem laws_markInt64SS_o_l0_ok (k : Nat) (pins : Nat → Value) (pinB : Nat → Nat) : LoopOK (mkEnv ti [] (lk [(17, 49, oc_laws_markInt64S_o_i_LI k)]) pins pinB) (laws_markInt64SS_o_O k) (rdO (mkEnv ti [] (lk [(17, 49, oc_laws_markInt64S_o_i_LI k)]) pins pinB) [.tmp 4] laws_markInt64SS_o_ho) ((loopsOf (codeOf Try.f23)).getD 0 .skip) (fun σ kx => laws_markInt64SS_o_l0_h.get σ fun x => laws_markInt64SS_o_l0_F k k x kx) := by
  refine ⟨laws_markInt64SS_o_l0_h, [(0, laws_markInt64SS_o_l0_x0)], fun n x kx => laws_markInt64SS_o_l0_F k n x kx, k, by kernel_rfl, by kernel_rfl, fun x kx => by kernel_rfl, ?_, fun σ kx => rfl⟩
  rintro n ⟨⟨⟨⟩, k1, i5, ⟨⟩⟩, ⟨q_2, ⟨⟩⟩, ⟨⟩⟩ kx
  kernel_rfl
theorem ok_laws_markInt64SS_o (k : Nat) : OpenOK Try.prog ti 23 (oc_laws_markInt64SS_o k) := by
  refine open_ok (tab := []) (l := [(17, 49, oc_laws_markInt64S_o_i_LI k)]) ti_ok ti_ht mix (List.forall_mem_nil _) (List.forall_mem_cons.2 ⟨ok_laws_markInt64S_o_i_LI k, (List.forall_mem_nil _)⟩) ⟨by kernel_rfl, by kernel_rfl, Try.f23, (codeOf Try.f23), [.tmp 4], (laws_markInt64SS_o_O k), by kernel_rfl, by kernel_rfl, by kernel_rfl, by kernel_rfl, Nat.le_of_ble_eq_true (by kernel_rfl), fun pins pinB => ⟨⟨by kernel_rfl, ?_, ?_⟩, ?_⟩⟩
  · refine loops_of (n := 1) (by kernel_rfl) fun i hi => ?_
    match i, hi with
    | 0, _ => exact loop_of (by kernel_rfl) (laws_markInt64SS_o_l0_ok k pins pinB)
    | n + 1, hi => omega
  · exact no_cuts (by kernel_rfl)
  · rintro ⟨⟨⟨⟩, k1, ⟨⟩⟩, ⟨q_1, ⟨⟩⟩, ⟨⟩⟩
    kernel_rfl
/- 10 loop.example/g01005/laws.markComplex (open) -/
def laws_markComplex_o (k : Nat) (k1 : Int) (q_1 : List (List Int)) : Option (((Int × Unit) × ((List (List Int)) × Unit) × Unit)) := (laws_markInt64SS_o k k1 q_1).bind fun y_2 => some ((y_2.1.1, ()), (y_2.2.1.1, ()), ())
def laws_markComplex_o_hi : Head := ⟨[(0, (.st (.ref 1000000000 []))), (1, (.val (.int .i64)))], [(1000000000, 43, (.sl 2 (.int .i64)), false)], []⟩
def laws_markComplex_o_ho : Head := ⟨[(0, (.val (.int .i64)))], [(1000000000, 43, (.sl 2 (.int .i64)), false)], []⟩
def oc_laws_markComplex_o (k : Nat) : OC := ⟨laws_markComplex_o_hi, laws_markComplex_o_ho, fun x => laws_markComplex_o k x.1.2.1 x.2.1.1⟩
theorem ok_laws_markComplex_o (k : Nat) : OpenOK Try.prog ti 10 (oc_laws_markComplex_o k) := by
  refine open_ok (tab := []) (l := [(8, 23, oc_laws_markInt64SS_o k)]) ti_ok ti_ht mix (List.forall_mem_nil _) (List.forall_mem_cons.2 ⟨ok_laws_markInt64SS_o k, (List.forall_mem_nil _)⟩) ⟨by kernel_rfl, by kernel_rfl, Try.f10, (codeOf Try.f10), [.tmp 4], (LOn (((Int × Unit) × ((List (List Int)) × Unit) × Unit))), by kernel_rfl, by kernel_rfl, by kernel_rfl, by kernel_rfl, Nat.le_of_ble_eq_true (by kernel_rfl), fun pins pinB => ⟨⟨by kernel_rfl, ?_, ?_⟩, ?_⟩⟩
  · exact no_loops (by kernel_rfl)
  · exact no_cuts (by kernel_rfl)
  · rintro ⟨⟨⟨⟩, k1, ⟨⟩⟩, ⟨q_1, ⟨⟩⟩, ⟨⟩⟩
    kernel_rfl
/- 24 loop.example/g01005/laws.markText -/
def laws_markText_l0 (k : Nat) : Nat → Int → (List UInt8) → ((List UInt8) → Option (List UInt8)) → Option (List UInt8)
  | 0, _, _, _ => none
  | n + 1, k0, out3, e_0 => (if (decide (0 < k0)) = true then (if (to_S [(w_u8 ((w_i64 (48 + (Int.tmod k0 10)))))]).length + out3.length ≤ 9223372036854775807 then laws_markText_l0 k n (w_i64 (Int.tdiv k0 10)) ((to_S [(w_u8 ((w_i64 (48 + (Int.tmod k0 10)))))]) ++ out3) e_0 else none) else e_0 out3)
def laws_markText (k : Nat) (k0 : Int) : Option (List UInt8) := (if (decide (k0 ≤ 0)) = true then some [109, 48] else laws_markText_l0 k k k0 [] (fun out_1 => (if [109].length + out_1.length ≤ 9223372036854775807 then some ([109] ++ out_1) else none)))
def laws_markText_l0_h : Head := ⟨[(0, (.val (.int .i64))), (3, (.val .str))], [], []⟩
def laws_markText_l0_x0 : Head := ⟨[(3, (.val .str))], [], []⟩
def laws_markText_l0_F (k n : Nat) (x : laws_markText_l0_h.T) (kx : Nat → St → Option (List UInt8)) : Option (List UInt8) := laws_markText_l0 k n x.1.1 x.1.2.1 (fun (out3 : List UInt8) => kx 0 (laws_markText_l0_x0.fill ((out3, ()), (), ())))
def laws_markText_O (k : Nat) : Oracles (List UInt8) := ⟨fun n => bif Nat.beq n 4 then some (fun σ kx => laws_markText_l0_h.get σ fun x => laws_markText_l0_F k k x kx) else none, fun _ => none⟩
def fe_laws_markText (k : Nat) : FE := ⟨(.int .i64), 1, .str, fun x => laws_markText k x⟩
theorem laws_markText_l0_ok (k : Nat) : LoopOK (mkEnv ti [] (lk []) pins0 pinB0) (laws_markText_O k) (rdC (mkEnv ti [] (lk []) pins0 pinB0) [.tmp 2] .str) ((loopsOf (codeOf Try.f24)).getD 0 .skip) (fun σ kx => laws_markText_l0_h.get σ fun x => laws_markText_l0_F k k x kx) := by
  refine ⟨laws_markText_l0_h, [(0, laws_markText_l0_x0)], fun n x kx => laws_markText_l0_F k n x kx, k, by kernel_rfl, by kernel_rfl, fun x kx => by kernel_rfl, ?_, fun σ kx => rfl⟩
  rintro n ⟨⟨k0, out3, ⟨⟩⟩, ⟨⟩, ⟨⟩⟩ kx
  kernel_rfl
theorem ok_laws_markText (k : Nat) : FnOK Try.prog 24 (fe_laws_markText k) := by
  refine closed_ok (tab := []) (l := []) ti_ok ti_ht mix (List.forall_mem_nil _) (List.forall_mem_nil _) ⟨⟨Try.f24, (codeOf Try.f24), [.tmp 2], (laws_markText_O k), by kernel_rfl, by kernel_rfl, by kernel_rfl, by kernel_rfl, rfl, by decide, ⟨by kernel_rfl, ?_, ?_⟩, ?_⟩⟩
  · refine loops_of (n := 1) (by kernel_rfl) fun i hi => ?_
    match i, hi with
    | 0, _ => exact loop_of (by kernel_rfl) (laws_markText_l0_ok k)
    | n + 1, hi => omega
  · exact no_cuts (by kernel_rfl)
  · rintro k0
    kernel_rfl
/- 11 loop.example/g01005/laws.markStringS (open) -/
def laws_markStringS_o_l0 (k : Nat) : Nat → Int → Int → (List (List UInt8)) → (Int → (List (List UInt8)) → Option (((Int × Unit) × ((List (List UInt8)) × Unit) × Unit))) → Option (((Int × Unit) × ((List (List UInt8)) × Unit) × Unit))
  | 0, _, _, _, _ => none
  | n + 1, k1, i5, q_2, e_0 => (if (decide (i5 < (List.length q_2 : Int))) = true then (laws_markText k k1).bind fun r_3 => (if 0 ≤ i5 ∧ i5.toNat < List.length q_2 then (q_2[i5.toNat]?).bind fun y_4 => (q_2[i5.toNat]?).bind fun y_5 => laws_markStringS_o_l0 k n (w_i64 (k1 + 1)) (w_i64 (i5 + 1)) (q_2.set i5.toNat r_3) e_0 else none) else e_0 k1 q_2)
def laws_markStringS_o (k : Nat) (k1 : Int) (q_1 : List (List UInt8)) : Option (((Int × Unit) × ((List (List UInt8)) × Unit) × Unit)) := laws_markStringS_o_l0 k k k1 0 q_1 (fun k_6 q_7 => some ((k_6, ()), (q_7, ()), ()))
def laws_markStringS_o_l0_h : Head := ⟨[(0, (.ref 1000000000 [])), (1, (.val (.int .i64))), (5, (.val (.int .i64)))], [(1000000000, 9, .str, false)], []⟩
def laws_markStringS_o_l0_x0 : Head := ⟨[(1, (.val (.int .i64)))], [(1000000000, 9, .str, false)], []⟩
def laws_markStringS_o_l0_F (k n : Nat) (x : laws_markStringS_o_l0_h.T) (kx : Nat → St → Option (((Int × Unit) × ((List (List UInt8)) × Unit) × Unit))) : Option (((Int × Unit) × ((List (List UInt8)) × Unit) × Unit)) := laws_markStringS_o_l0 k n x.1.2.1 x.1.2.2.1 x.2.1.1 (fun (k1 : Int) (q_6 : List (List UInt8)) => kx 0 (laws_markStringS_o_l0_x0.fill ((k1, ()), (q_6, ()), ())))
def laws_markStringS_o_O (k : Nat) : Oracles (((Int × Unit) × ((List (List UInt8)) × Unit) × Unit)) := ⟨fun n => bif Nat.beq n 2 then some (fun σ kx => laws_markStringS_o_l0_h.get σ fun x => laws_markStringS_o_l0_F k k x kx) else none, fun _ => none⟩
def laws_markStringS_o_hi : Head := ⟨[(0, (.ref 1000000000 [])), (1, (.val (.int .i64)))], [(1000000000, 9, .str, false)], []⟩
def laws_markStringS_o_ho : Head := ⟨[(0, (.val (.int .i64)))], [(1000000000, 9, .str, false)], []⟩
def oc_laws_markStringS_o (k : Nat) : OC := ⟨laws_markStringS_o_hi, laws_markStringS_o_ho, fun x => laws_markStringS_o k x.1.2.1 x.2.1.1⟩
theorem laws_markStringS_o_l0_ok (k : Nat) (pins : Nat → Value) (pinB : Nat → Nat) : LoopOK (mkEnv ti [(24, fe_laws_markText k)] (lk []) pins pinB) (laws_markStringS_o_O k) (rdO (mkEnv ti [(24, fe_laws_markText k)] (lk []) pins pinB) [.tmp 4] laws_markStringS_o_ho) ((loopsOf (codeOf Try.f11)).getD 0 .skip) (fun σ kx => laws_markStringS_o_l0_h.get σ fun x => laws_markStringS_o_l0_F k k x kx) := by
  refine ⟨laws_markStringS_o_l0_h, [(0, laws_markStringS_o_l0_x0)], fun n x kx => laws_markStringS_o_l0_F k n x kx, k, by kernel_rfl, by kernel_rfl, fun x kx => by kernel_rfl, ?_, fun σ kx => rfl⟩
  rintro n ⟨⟨⟨⟩, k1, i5, ⟨⟩⟩, ⟨q_2, ⟨⟩⟩, ⟨⟩⟩ kx
  kernel_rfl
theorem ok_laws_markStringS_o (k : Nat) : OpenOK Try.prog ti 11 (oc_laws_markStringS_o k) := by
  refine open_ok (tab := [(24, fe_laws_markText k)]) (l := []) ti_ok ti_ht mix (List.forall_mem_cons.2 ⟨ok_laws_markText k, (List.forall_mem_nil _)⟩) (List.forall_mem_nil _) ⟨by kernel_rfl, by kernel_rfl, Try.f11, (codeOf Try.f11), [.tmp 4], (laws_markStringS_o_O k), by kernel_rfl, by kernel_rfl, by kernel_rfl, by kernel_rfl, Nat.le_of_ble_eq_true (by kernel_rfl), fun pins pinB => ⟨⟨by kernel_rfl, ?_, ?_⟩, ?_⟩⟩
  · refine loops_of (n := 1) (by kernel_rfl) fun i hi => ?_
    match i, hi with
    | 0, _ => exact loop_of (by kernel_rfl) (laws_markStringS_o_l0_ok k pins pinB)
    | n + 1, hi => omega
  · exact no_cuts (by kernel_rfl)
  · rintro ⟨⟨⟨⟩, k1, ⟨⟩⟩, ⟨q_1, ⟨⟩⟩, ⟨⟩⟩
    kernel_rfl
end
end Go.Proofs.Ytnlpjpfpjnmjmaa.Ev
