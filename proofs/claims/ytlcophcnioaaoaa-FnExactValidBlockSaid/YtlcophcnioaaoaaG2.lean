/- Functions of the program, as plain ones. No conditions. -/
import Derived.Test.YtlcophcnioaaoaaG1
import Derived.KernelRfl
set_option linter.unusedVariables false
set_option maxRecDepth 100000
namespace Go.Proofs.Ytlcophcnioaaoaa.Ev
open Go.RowKit
/- 41 loop.example/g01005/impl.widthOf -/
def impl_widthOf (lines0 : List (List UInt8)) : Option Int := (if (decide ((List.length lines0 : Int) = 0)) = true then some 0 else (lines0[0]?).bind fun y_1 => some (List.length y_1 : Int))
def fe_impl_widthOf : FE := ⟨(.sl 9 .str), 1, (.int .i64), fun x => impl_widthOf x⟩
theorem ok_impl_widthOf : FnOK Try.prog 41 (fe_impl_widthOf) := by
  refine closed_ok (tab := []) (l := []) ti_ok ti_ht mix (List.forall_mem_nil _) (List.forall_mem_nil _) ⟨⟨Try.f41, (codeOf Try.f41), [.tmp 2], (LOn Int), by kernel_rfl, by kernel_rfl, by kernel_rfl, by kernel_rfl, rfl, by decide, ⟨by kernel_rfl, ?_, ?_⟩, ?_⟩⟩
  · exact no_loops (by kernel_rfl)
  · exact no_cuts (by kernel_rfl)
  · rintro lines0
    kernel_rfl
/- 43 loop.example/g01005/impl.ValidPicture$1 -/
def impl_ValidPicture_1 (b0 : Int) : Option Bool := (if (decide (b0 < 32)) = true then some true else some (decide (126 < b0)))
def fe_impl_ValidPicture_1 : FE := ⟨(.int .u8), 1, .bool, fun x => impl_ValidPicture_1 x⟩
theorem ok_impl_ValidPicture_1 : FnOK Try.prog 43 (fe_impl_ValidPicture_1) := by
  refine closed_ok (tab := []) (l := []) ti_ok ti_ht mix (List.forall_mem_nil _) (List.forall_mem_nil _) ⟨⟨Try.f43, (codeOf Try.f43), [.tmp 2], (LOn Bool), by kernel_rfl, by kernel_rfl, by kernel_rfl, by kernel_rfl, rfl, by decide, ⟨by kernel_rfl, ?_, ?_⟩, ?_⟩⟩
  · exact no_loops (by kernel_rfl)
  · exact no_cuts (by kernel_rfl)
  · rintro b0
    kernel_rfl
/- 53 slices.IndexFunc[[]byte,byte] -/
def slices_IndexFunc_byte__impl_ValidPicture_1_l0 (k : Nat) : Nat → (List Int) → Unit → Int → Int → (Option Int) → Option Int
  | 0, _, _, _, _, _ => none
  | n + 1, s0, f1, x7, x8, e_0 => (if (decide (x8 < x7)) = true then (if 0 ≤ x8 then (s0[x8.toNat]?).bind fun y_1 => (impl_ValidPicture_1 y_1).bind fun r_2 => (if r_2 = true then some x8 else slices_IndexFunc_byte__impl_ValidPicture_1_l0 k n s0 f1 x7 (w_i64 (x8 + 1)) e_0) else none) else e_0)
def slices_IndexFunc_byte__impl_ValidPicture_1 (k : Nat) (s0 : List Int) (f1 : Unit) : Option Int := slices_IndexFunc_byte__impl_ValidPicture_1_l0 k k s0 f1 (List.length s0 : Int) 0 (some (-1))
def slices_IndexFunc_byte__impl_ValidPicture_1_l0_h : Head := ⟨[(0, (.val (.sl 5 (.int .u8)))), (1, (.val (.fn 43 .un))), (7, (.val (.int .i64))), (8, (.val (.int .i64)))], [], []⟩
def slices_IndexFunc_byte__impl_ValidPicture_1_l0_x0 : Head := ⟨[], [], []⟩
def slices_IndexFunc_byte__impl_ValidPicture_1_l0_F (k n : Nat) (x : slices_IndexFunc_byte__impl_ValidPicture_1_l0_h.T) (kx : Nat → St → Option Int) : Option Int := slices_IndexFunc_byte__impl_ValidPicture_1_l0 k n x.1.1 x.1.2.1 x.1.2.2.1 x.1.2.2.2.1 (kx 0 (slices_IndexFunc_byte__impl_ValidPicture_1_l0_x0.fill ((), (), ())))
def slices_IndexFunc_byte__impl_ValidPicture_1_O (k : Nat) : Oracles Int := ⟨fun n => bif Nat.beq n 2 then some (fun σ kx => slices_IndexFunc_byte__impl_ValidPicture_1_l0_h.get σ fun x => slices_IndexFunc_byte__impl_ValidPicture_1_l0_F k k x kx) else none, fun _ => none⟩
def fe_slices_IndexFunc_byte__impl_ValidPicture_1 (k : Nat) : FE := ⟨(.pr (.sl 5 (.int .u8)) (.fn 43 .un)), 1, (.int .i64), fun x => slices_IndexFunc_byte__impl_ValidPicture_1 k x.1 x.2⟩
theorem slices_IndexFunc_byte__impl_ValidPicture_1_l0_ok (k : Nat) : LoopOK (mkEnv ti [(43, fe_impl_ValidPicture_1)] (lk []) pins0 pinB0) (slices_IndexFunc_byte__impl_ValidPicture_1_O k) (rdC (mkEnv ti [(43, fe_impl_ValidPicture_1)] (lk []) pins0 pinB0) [.tmp 4] (.int .i64)) ((loopsOf (codeOf Try.f53)).getD 0 .skip) (fun σ kx => slices_IndexFunc_byte__impl_ValidPicture_1_l0_h.get σ fun x => slices_IndexFunc_byte__impl_ValidPicture_1_l0_F k k x kx) := by
  refine ⟨slices_IndexFunc_byte__impl_ValidPicture_1_l0_h, [(0, slices_IndexFunc_byte__impl_ValidPicture_1_l0_x0)], fun n x kx => slices_IndexFunc_byte__impl_ValidPicture_1_l0_F k n x kx, k, by kernel_rfl, by kernel_rfl, fun x kx => by kernel_rfl, ?_, fun σ kx => rfl⟩
  rintro n ⟨⟨s0, f1, x7, x8, ⟨⟩⟩, ⟨⟩, ⟨⟩⟩ kx
  kernel_rfl
theorem ok_slices_IndexFunc_byte__impl_ValidPicture_1 (k : Nat) : FnOK Try.prog 53 (fe_slices_IndexFunc_byte__impl_ValidPicture_1 k) := by
  refine closed_ok (tab := [(43, fe_impl_ValidPicture_1)]) (l := []) ti_ok ti_ht mix (List.forall_mem_cons.2 ⟨ok_impl_ValidPicture_1, (List.forall_mem_nil _)⟩) (List.forall_mem_nil _) ⟨⟨Try.f53, (codeOf Try.f53), [.tmp 4], (slices_IndexFunc_byte__impl_ValidPicture_1_O k), by kernel_rfl, by kernel_rfl, by kernel_rfl, by kernel_rfl, rfl, by decide, ⟨by kernel_rfl, ?_, ?_⟩, ?_⟩⟩
  · refine loops_of (n := 1) (by kernel_rfl) fun i hi => ?_
    match i, hi with
    | 0, _ => exact loop_of (by kernel_rfl) (slices_IndexFunc_byte__impl_ValidPicture_1_l0_ok k)
    | n + 1, hi => omega
  · exact no_cuts (by kernel_rfl)
  · rintro ⟨s0, f1⟩
    kernel_rfl
/- 42 slices.ContainsFunc[[]byte,byte] -/
def slices_ContainsFunc_byte__impl_ValidPicture_1 (k : Nat) (s0 : List Int) (f1 : Unit) : Option Bool := (slices_IndexFunc_byte__impl_ValidPicture_1 k s0 f1).bind fun r_1 => some (decide (0 ≤ r_1))
def fe_slices_ContainsFunc_byte__impl_ValidPicture_1 (k : Nat) : FE := ⟨(.pr (.sl 5 (.int .u8)) (.fn 43 .un)), 1, .bool, fun x => slices_ContainsFunc_byte__impl_ValidPicture_1 k x.1 x.2⟩
theorem ok_slices_ContainsFunc_byte__impl_ValidPicture_1 (k : Nat) : FnOK Try.prog 42 (fe_slices_ContainsFunc_byte__impl_ValidPicture_1 k) := by
  refine closed_ok (tab := [(53, fe_slices_IndexFunc_byte__impl_ValidPicture_1 k)]) (l := []) ti_ok ti_ht mix (List.forall_mem_cons.2 ⟨ok_slices_IndexFunc_byte__impl_ValidPicture_1 k, (List.forall_mem_nil _)⟩) (List.forall_mem_nil _) ⟨⟨Try.f42, (codeOf Try.f42), [.tmp 4], (LOn Bool), by kernel_rfl, by kernel_rfl, by kernel_rfl, by kernel_rfl, rfl, by decide, ⟨by kernel_rfl, ?_, ?_⟩, ?_⟩⟩
  · exact no_loops (by kernel_rfl)
  · exact no_cuts (by kernel_rfl)
  · rintro ⟨s0, f1⟩
    kernel_rfl
/- 24 loop.example/g01005/impl.ValidPicture -/
def impl_ValidPicture_l0 (k : Nat) : Nat → (List (List UInt8)) → (List (List UInt8)) → Int → Int → ((List (List UInt8)) → Option Bool) → Option Bool
  | 0, _, _, _, _, _ => none
  | n + 1, lines0, x5, x6, x7, e_0 => (if (decide (x7 < x6)) = true then (if 0 ≤ x7 then (x5[x7.toNat]?).bind fun y_1 => (impl_widthOf lines0).bind fun r_2 => (if (!(decide ((List.length y_1 : Int) = r_2))) = true then some false else (if y_1.length ≤ LIM then (slices_ContainsFunc_byte__impl_ValidPicture_1 k (of_S y_1) ()).bind fun r_3 => (if r_3 = true then some false else impl_ValidPicture_l0 k n lines0 x5 x6 (w_i64 (x7 + 1)) e_0) else none)) else none) else e_0 lines0)
def impl_ValidPicture (k : Nat) (lines0 : List (List UInt8)) : Option Bool := impl_ValidPicture_l0 k k lines0 lines0 (List.length lines0 : Int) 0 (fun lines_4 => (if (decide ((List.length lines_4 : Int) ≤ 60)) = true then (impl_widthOf lines_4).bind fun r_5 => some (decide (r_5 ≤ 80)) else some false))
def impl_ValidPicture_l0_h : Head := ⟨[(0, (.val (.sl 9 .str))), (5, (.val (.sl 9 .str))), (6, (.val (.int .i64))), (7, (.val (.int .i64)))], [], []⟩
def impl_ValidPicture_l0_x0 : Head := ⟨[(0, (.val (.sl 9 .str)))], [], []⟩
def impl_ValidPicture_l0_F (k n : Nat) (x : impl_ValidPicture_l0_h.T) (kx : Nat → St → Option Bool) : Option Bool := impl_ValidPicture_l0 k n x.1.1 x.1.2.1 x.1.2.2.1 x.1.2.2.2.1 (fun (lines0 : List (List UInt8)) => kx 0 (impl_ValidPicture_l0_x0.fill ((lines0, ()), (), ())))
def impl_ValidPicture_O (k : Nat) : Oracles Bool := ⟨fun n => bif Nat.beq n 2 then some (fun σ kx => impl_ValidPicture_l0_h.get σ fun x => impl_ValidPicture_l0_F k k x kx) else none, fun _ => none⟩
def fe_impl_ValidPicture (k : Nat) : FE := ⟨(.sl 9 .str), 1, .bool, fun x => impl_ValidPicture k x⟩
theorem impl_ValidPicture_l0_ok (k : Nat) : LoopOK (mkEnv ti [(41, fe_impl_widthOf), (42, fe_slices_ContainsFunc_byte__impl_ValidPicture_1 k)] (lk []) pins0 pinB0) (impl_ValidPicture_O k) (rdC (mkEnv ti [(41, fe_impl_widthOf), (42, fe_slices_ContainsFunc_byte__impl_ValidPicture_1 k)] (lk []) pins0 pinB0) [.tmp 2] .bool) ((loopsOf (codeOf Try.f24)).getD 0 .skip) (fun σ kx => impl_ValidPicture_l0_h.get σ fun x => impl_ValidPicture_l0_F k k x kx) := by
  refine ⟨impl_ValidPicture_l0_h, [(0, impl_ValidPicture_l0_x0)], fun n x kx => impl_ValidPicture_l0_F k n x kx, k, by kernel_rfl, by kernel_rfl, fun x kx => by kernel_rfl, ?_, fun σ kx => rfl⟩
  rintro n ⟨⟨lines0, x5, x6, x7, ⟨⟩⟩, ⟨⟩, ⟨⟩⟩ kx
  kernel_rfl
theorem ok_impl_ValidPicture (k : Nat) : FnOK Try.prog 24 (fe_impl_ValidPicture k) := by
  refine closed_ok (tab := [(41, fe_impl_widthOf), (42, fe_slices_ContainsFunc_byte__impl_ValidPicture_1 k)]) (l := []) ti_ok ti_ht mix (List.forall_mem_cons.2 ⟨ok_impl_widthOf, (List.forall_mem_cons.2 ⟨ok_slices_ContainsFunc_byte__impl_ValidPicture_1 k, (List.forall_mem_nil _)⟩)⟩) (List.forall_mem_nil _) ⟨⟨Try.f24, (codeOf Try.f24), [.tmp 2], (impl_ValidPicture_O k), by kernel_rfl, by kernel_rfl, by kernel_rfl, by kernel_rfl, rfl, by decide, ⟨by kernel_rfl, ?_, ?_⟩, ?_⟩⟩
  · refine loops_of (n := 1) (by kernel_rfl) fun i hi => ?_
    match i, hi with
    | 0, _ => exact loop_of (by kernel_rfl) (impl_ValidPicture_l0_ok k)
    | n + 1, hi => omega
  · exact no_cuts (by kernel_rfl)
  · rintro lines0
    kernel_rfl
/- 6 loop.example/g01005/laws.FnExactValidPicture -/
def laws_FnExactValidPicture (k : Nat) (aLines0 : List (List UInt8)) : Option Bool := (laws_szStringS k aLines0 1048576).bind fun r_1 => (if (decide (r_1 < 0)) = true then some true else (laws_toStringS k aLines0).bind fun r_2 => (spec_ValidPicture k r_2).bind fun r_3 => (laws_toStringS k aLines0).bind fun r_4 => (impl_ValidPicture k r_4).bind fun r_5 => (if (!(r_5 == r_3)) = true then some false else (laws_toStringS k aLines0).bind fun r_6 => (laws_eqStringS k r_4 r_6).bind fun r_7 => (if (!r_7) = true then some false else some true)))
def fe_laws_FnExactValidPicture (k : Nat) : FE := ⟨(.sl 9 .str), 1, .bool, fun x => laws_FnExactValidPicture k x⟩
theorem ok_laws_FnExactValidPicture (k : Nat) : FnOK Try.prog 6 (fe_laws_FnExactValidPicture k) := by
  refine closed_ok (tab := [(21, fe_laws_szStringS k), (23, fe_laws_toStringS k), (22, fe_spec_ValidPicture k), (24, fe_impl_ValidPicture k), (18, fe_laws_eqStringS k)]) (l := []) ti_ok ti_ht mix (List.forall_mem_cons.2 ⟨ok_laws_szStringS k, (List.forall_mem_cons.2 ⟨ok_laws_toStringS k, (List.forall_mem_cons.2 ⟨ok_spec_ValidPicture k, (List.forall_mem_cons.2 ⟨ok_impl_ValidPicture k, (List.forall_mem_cons.2 ⟨ok_laws_eqStringS k, (List.forall_mem_nil _)⟩)⟩)⟩)⟩)⟩) (List.forall_mem_nil _) ⟨⟨Try.f6, (codeOf Try.f6), [.tmp 2], (LOn Bool), by kernel_rfl, by kernel_rfl, by kernel_rfl, by kernel_rfl, rfl, by decide, ⟨by kernel_rfl, ?_, ?_⟩, ?_⟩⟩
  · exact no_loops (by kernel_rfl)
  · exact no_cuts (by kernel_rfl)
  · rintro aLines0
    kernel_rfl
/- 32 loop.example/g01005/laws.szBlock -/
def laws_szBlock (a0 : List UInt8 × List UInt8 × List UInt8) (left1 : Int) : Option Int := (if (decide ((w_i64 (left1 - (List.length a0.1 : Int))) < 0)) = true then some (-1) else (if (decide ((w_i64 ((w_i64 (left1 - (List.length a0.1 : Int))) - (List.length a0.2.1 : Int))) < 0)) = true then some (-1) else (if (decide ((w_i64 ((w_i64 ((w_i64 (left1 - (List.length a0.1 : Int))) - (List.length a0.2.1 : Int))) - (List.length a0.2.2 : Int))) < 0)) = true then some (-1) else some (w_i64 ((w_i64 ((w_i64 (left1 - (List.length a0.1 : Int))) - (List.length a0.2.1 : Int))) - (List.length a0.2.2 : Int))))))
def fe_laws_szBlock : FE := ⟨(.pr (.st (.pr .str (.pr .str .str))) (.int .i64)), 1, (.int .i64), fun x => laws_szBlock x.1 x.2⟩
theorem ok_laws_szBlock : FnOK Try.prog 32 (fe_laws_szBlock) := by
  refine closed_ok (tab := []) (l := []) ti_ok ti_ht mix (List.forall_mem_nil _) (List.forall_mem_nil _) ⟨⟨Try.f32, (codeOf Try.f32), [.tmp 4], (LOn Int), by kernel_rfl, by kernel_rfl, by kernel_rfl, by kernel_rfl, rfl, by decide, ⟨by kernel_rfl, ?_, ?_⟩, ?_⟩⟩
  · exact no_loops (by kernel_rfl)
  · exact no_cuts (by kernel_rfl)
  · rintro ⟨a0, left1⟩
    kernel_rfl
/- 25 loop.example/g01005/laws.szBlockS -/
def laws_szBlockS_l0 (k : Nat) : Nat → (List (List UInt8 × List UInt8 × List UInt8)) → Int → Int → (Int → Option Int) → Option Int
  | 0, _, _, _, _ => none
  | n + 1, a0, left1, i5, e_0 => (if (decide (i5 < (List.length a0 : Int))) = true then (if 0 ≤ i5 then (a0[i5.toNat]?).bind fun y_1 => (laws_szBlock y_1 left1).bind fun r_2 => (if (decide (r_2 < 0)) = true then some (-1) else laws_szBlockS_l0 k n a0 r_2 (w_i64 (i5 + 1)) e_0) else none) else e_0 left1)
def laws_szBlockS (k : Nat) (a0 : List (List UInt8 × List UInt8 × List UInt8)) (left1 : Int) : Option Int := (if (decide ((w_i64 (left1 - (List.length a0 : Int))) < 0)) = true then some (-1) else laws_szBlockS_l0 k k a0 (w_i64 (left1 - (List.length a0 : Int))) 0 (fun left_3 => some left_3))
def laws_szBlockS_l0_h : Head := ⟨[(0, (.val (.sl 48 (.st (.pr .str (.pr .str .str)))))), (1, (.val (.int .i64))), (5, (.val (.int .i64)))], [], []⟩
def laws_szBlockS_l0_x0 : Head := ⟨[(1, (.val (.int .i64)))], [], []⟩
def laws_szBlockS_l0_F (k n : Nat) (x : laws_szBlockS_l0_h.T) (kx : Nat → St → Option Int) : Option Int := laws_szBlockS_l0 k n x.1.1 x.1.2.1 x.1.2.2.1 (fun (left1 : Int) => kx 0 (laws_szBlockS_l0_x0.fill ((left1, ()), (), ())))
def laws_szBlockS_O (k : Nat) : Oracles Int := ⟨fun n => bif Nat.beq n 5 then some (fun σ kx => laws_szBlockS_l0_h.get σ fun x => laws_szBlockS_l0_F k k x kx) else none, fun _ => none⟩
def fe_laws_szBlockS (k : Nat) : FE := ⟨(.pr (.sl 48 (.st (.pr .str (.pr .str .str)))) (.int .i64)), 1, (.int .i64), fun x => laws_szBlockS k x.1 x.2⟩
theorem laws_szBlockS_l0_ok (k : Nat) : LoopOK (mkEnv ti [(32, fe_laws_szBlock)] (lk []) pins0 pinB0) (laws_szBlockS_O k) (rdC (mkEnv ti [(32, fe_laws_szBlock)] (lk []) pins0 pinB0) [.tmp 4] (.int .i64)) ((loopsOf (codeOf Try.f25)).getD 0 .skip) (fun σ kx => laws_szBlockS_l0_h.get σ fun x => laws_szBlockS_l0_F k k x kx) := by
  refine ⟨laws_szBlockS_l0_h, [(0, laws_szBlockS_l0_x0)], fun n x kx => laws_szBlockS_l0_F k n x kx, k, by kernel_rfl, by kernel_rfl, fun x kx => by kernel_rfl, ?_, fun σ kx => rfl⟩
  rintro n ⟨⟨a0, left1, i5, ⟨⟩⟩, ⟨⟩, ⟨⟩⟩ kx
  kernel_rfl
theorem ok_laws_szBlockS (k : Nat) : FnOK Try.prog 25 (fe_laws_szBlockS k) := by
  refine closed_ok (tab := [(32, fe_laws_szBlock)]) (l := []) ti_ok ti_ht mix (List.forall_mem_cons.2 ⟨ok_laws_szBlock, (List.forall_mem_nil _)⟩) (List.forall_mem_nil _) ⟨⟨Try.f25, (codeOf Try.f25), [.tmp 4], (laws_szBlockS_O k), by kernel_rfl, by kernel_rfl, by kernel_rfl, by kernel_rfl, rfl, by decide, ⟨by kernel_rfl, ?_, ?_⟩, ?_⟩⟩
  · refine loops_of (n := 1) (by kernel_rfl) fun i hi => ?_
    match i, hi with
    | 0, _ => exact loop_of (by kernel_rfl) (laws_szBlockS_l0_ok k)
    | n + 1, hi => omega
  · exact no_cuts (by kernel_rfl)
  · rintro ⟨a0, left1⟩
    kernel_rfl
/- 34 loop.example/g01005/laws.toBlock -/
def laws_toBlock (a0 : List UInt8 × List UInt8 × List UInt8) : Option (List UInt8 × List UInt8 × List UInt8) := some (a0.1, (a0.2.1, a0.2.2))
def fe_laws_toBlock : FE := ⟨(.st (.pr .str (.pr .str .str))), 1, (.st (.pr .str (.pr .str .str))), fun x => laws_toBlock x⟩
theorem ok_laws_toBlock : FnOK Try.prog 34 (fe_laws_toBlock) := by
  refine closed_ok (tab := []) (l := []) ti_ok ti_ht mix (List.forall_mem_nil _) (List.forall_mem_nil _) ⟨⟨Try.f34, (codeOf Try.f34), [.cell 2 51], (LOn (List UInt8 × List UInt8 × List UInt8)), by kernel_rfl, by kernel_rfl, by kernel_rfl, by kernel_rfl, rfl, by decide, ⟨by kernel_rfl, ?_, ?_⟩, ?_⟩⟩
  · exact no_loops (by kernel_rfl)
  · exact no_cuts (by kernel_rfl)
  · rintro a0
    kernel_rfl
/- 27 loop.example/g01005/laws.toBlockS -/
def laws_toBlockS_l0 (k : Nat) : Nat → (List (List UInt8 × List UInt8 × List UInt8)) → Int → (List (List UInt8 × List UInt8 × List UInt8)) → ((List (List UInt8 × List UInt8 × List UInt8)) → Option (List (List UInt8 × List UInt8 × List UInt8))) → Option (List (List UInt8 × List UInt8 × List UInt8))
  | 0, _, _, _, _ => none
  | n + 1, a0, i4, q_1, e_0 => (if (decide (i4 < (List.length a0 : Int))) = true then (if 0 ≤ i4 then (a0[i4.toNat]?).bind fun y_2 => (laws_toBlock y_2).bind fun r_3 => (if 0 ≤ i4 ∧ i4.toNat < List.length q_1 then (q_1[i4.toNat]?).bind fun y_4 => (q_1[i4.toNat]?).bind fun y_5 => laws_toBlockS_l0 k n a0 (w_i64 (i4 + 1)) (q_1.set i4.toNat r_3) e_0 else none) else none) else e_0 q_1)
def laws_toBlockS (k : Nat) (a0 : List (List UInt8 × List UInt8 × List UInt8)) : Option (List (List UInt8 × List UInt8 × List UInt8)) := (if 0 ≤ (List.length a0 : Int) ∧ (List.length a0 : Int) ≤ (List.length a0 : Int) ∧ (List.length a0 : Int) * 48 ≤ LIM then laws_toBlockS_l0 k k a0 0 (List.replicate (List.length a0) ([], ([], []))) (fun q_6 => some q_6) else none)
def laws_toBlockS_l0_h : Head := ⟨[(0, (.val (.sl 48 (.st (.pr .str (.pr .str .str)))))), (3, (.ref 64000000 [])), (4, (.val (.int .i64)))], [(64000000, 51, (.st (.pr .str (.pr .str .str))), false)], []⟩
def laws_toBlockS_l0_x0 : Head := ⟨[(3, (.ref 64000000 []))], [(64000000, 51, (.st (.pr .str (.pr .str .str))), false)], []⟩
def laws_toBlockS_l0_F (k n : Nat) (x : laws_toBlockS_l0_h.T) (kx : Nat → St → Option (List (List UInt8 × List UInt8 × List UInt8))) : Option (List (List UInt8 × List UInt8 × List UInt8)) := laws_toBlockS_l0 k n x.1.1 x.1.2.2.1 x.2.1.1 (fun (q_6 : List (List UInt8 × List UInt8 × List UInt8)) => kx 0 (laws_toBlockS_l0_x0.fill (((), ()), (q_6, ()), ())))
def laws_toBlockS_O (k : Nat) : Oracles (List (List UInt8 × List UInt8 × List UInt8)) := ⟨fun n => bif Nat.beq n 3 then some (fun σ kx => laws_toBlockS_l0_h.get σ fun x => laws_toBlockS_l0_F k k x kx) else none, fun _ => none⟩
def fe_laws_toBlockS (k : Nat) : FE := ⟨(.sl 48 (.st (.pr .str (.pr .str .str)))), 1, (.sl 51 (.st (.pr .str (.pr .str .str)))), fun x => laws_toBlockS k x⟩
theorem laws_toBlockS_l0_ok (k : Nat) : LoopOK (mkEnv ti [(34, fe_laws_toBlock)] (lk []) pins0 pinB0) (laws_toBlockS_O k) (rdC (mkEnv ti [(34, fe_laws_toBlock)] (lk []) pins0 pinB0) [.tmp 2] (.sl 51 (.st (.pr .str (.pr .str .str))))) ((loopsOf (codeOf Try.f27)).getD 0 .skip) (fun σ kx => laws_toBlockS_l0_h.get σ fun x => laws_toBlockS_l0_F k k x kx) := by
  refine ⟨laws_toBlockS_l0_h, [(0, laws_toBlockS_l0_x0)], fun n x kx => laws_toBlockS_l0_F k n x kx, k, by kernel_rfl, by kernel_rfl, fun x kx => by kernel_rfl, ?_, fun σ kx => rfl⟩
  rintro n ⟨⟨a0, ⟨⟩, i4, ⟨⟩⟩, ⟨q_1, ⟨⟩⟩, ⟨⟩⟩ kx
  kernel_rfl
theorem ok_laws_toBlockS (k : Nat) : FnOK Try.prog 27 (fe_laws_toBlockS k) := by
  refine closed_ok (tab := [(34, fe_laws_toBlock)]) (l := []) ti_ok ti_ht mix (List.forall_mem_cons.2 ⟨ok_laws_toBlock, (List.forall_mem_nil _)⟩) (List.forall_mem_nil _) ⟨⟨Try.f27, (codeOf Try.f27), [.tmp 2], (laws_toBlockS_O k), by kernel_rfl, by kernel_rfl, by kernel_rfl, by kernel_rfl, rfl, by decide, ⟨by kernel_rfl, ?_, ?_⟩, ?_⟩⟩
  · refine loops_of (n := 1) (by kernel_rfl) fun i hi => ?_
    match i, hi with
    | 0, _ => exact loop_of (by kernel_rfl) (laws_toBlockS_l0_ok k)
    | n + 1, hi => omega
  · exact no_cuts (by kernel_rfl)
  · rintro a0
    kernel_rfl
/- 44 loop.example/g01005/spec.l29Same -/
def spec_l29Same_l0 (k : Nat) : Nat → (List (List UInt8 × List UInt8 × List UInt8)) → (List (List UInt8 × List UInt8 × List UInt8)) → Int → (Option Bool) → Option Bool
  | 0, _, _, _, _ => none
  | n + 1, a0, b1, i5, e_0 => (if (decide (i5 < (List.length a0 : Int))) = true then (if 0 ≤ i5 then (a0[i5.toNat]?).bind fun y_1 => (if 0 ≤ i5 then (b1[i5.toNat]?).bind fun y_2 => (if (!(decide (y_1 = y_2))) = true then some false else spec_l29Same_l0 k n a0 b1 (w_i64 (i5 + 1)) e_0) else none) else none) else e_0)
def spec_l29Same (k : Nat) (a0 : List (List UInt8 × List UInt8 × List UInt8)) (b1 : List (List UInt8 × List UInt8 × List UInt8)) : Option Bool := (if (!(decide ((List.length a0 : Int) = (List.length b1 : Int)))) = true then some false else spec_l29Same_l0 k k a0 b1 0 (some true))
def spec_l29Same_l0_h : Head := ⟨[(0, (.val (.sl 51 (.st (.pr .str (.pr .str .str)))))), (1, (.val (.sl 51 (.st (.pr .str (.pr .str .str)))))), (5, (.val (.int .i64)))], [], []⟩
def spec_l29Same_l0_x0 : Head := ⟨[], [], []⟩
def spec_l29Same_l0_F (k n : Nat) (x : spec_l29Same_l0_h.T) (kx : Nat → St → Option Bool) : Option Bool := spec_l29Same_l0 k n x.1.1 x.1.2.1 x.1.2.2.1 (kx 0 (spec_l29Same_l0_x0.fill ((), (), ())))
def spec_l29Same_O (k : Nat) : Oracles Bool := ⟨fun n => bif Nat.beq n 4 then some (fun σ kx => spec_l29Same_l0_h.get σ fun x => spec_l29Same_l0_F k k x kx) else none, fun _ => none⟩
def fe_spec_l29Same (k : Nat) : FE := ⟨(.pr (.sl 51 (.st (.pr .str (.pr .str .str)))) (.sl 51 (.st (.pr .str (.pr .str .str))))), 1, .bool, fun x => spec_l29Same k x.1 x.2⟩
theorem spec_l29Same_l0_ok (k : Nat) : LoopOK (mkEnv ti [] (lk []) pins0 pinB0) (spec_l29Same_O k) (rdC (mkEnv ti [] (lk []) pins0 pinB0) [.tmp 4] .bool) ((loopsOf (codeOf Try.f44)).getD 0 .skip) (fun σ kx => spec_l29Same_l0_h.get σ fun x => spec_l29Same_l0_F k k x kx) := by
  refine ⟨spec_l29Same_l0_h, [(0, spec_l29Same_l0_x0)], fun n x kx => spec_l29Same_l0_F k n x kx, k, by kernel_rfl, by kernel_rfl, fun x kx => by kernel_rfl, ?_, fun σ kx => rfl⟩
  rintro n ⟨⟨a0, b1, i5, ⟨⟩⟩, ⟨⟩, ⟨⟩⟩ kx
  kernel_rfl
theorem ok_spec_l29Same (k : Nat) : FnOK Try.prog 44 (fe_spec_l29Same k) := by
  refine closed_ok (tab := []) (l := []) ti_ok ti_ht mix (List.forall_mem_nil _) (List.forall_mem_nil _) ⟨⟨Try.f44, (codeOf Try.f44), [.tmp 4], (spec_l29Same_O k), by kernel_rfl, by kernel_rfl, by kernel_rfl, by kernel_rfl, rfl, by decide, ⟨by kernel_rfl, ?_, ?_⟩, ?_⟩⟩
  · refine loops_of (n := 1) (by kernel_rfl) fun i hi => ?_
    match i, hi with
    | 0, _ => exact loop_of (by kernel_rfl) (spec_l29Same_l0_ok k)
    | n + 1, hi => omega
  · exact no_cuts (by kernel_rfl)
  · rintro ⟨a0, b1⟩
    kernel_rfl
/- 26 loop.example/g01005/spec.SameBlocks -/
def spec_SameBlocks (k : Nat) (a0 : List (List UInt8 × List UInt8 × List UInt8)) (b1 : List (List UInt8 × List UInt8 × List UInt8)) : Option Bool := (spec_l29Same k a0 b1).bind fun r_1 => some r_1
def fe_spec_SameBlocks (k : Nat) : FE := ⟨(.pr (.sl 51 (.st (.pr .str (.pr .str .str)))) (.sl 51 (.st (.pr .str (.pr .str .str))))), 1, .bool, fun x => spec_SameBlocks k x.1 x.2⟩
theorem ok_spec_SameBlocks (k : Nat) : FnOK Try.prog 26 (fe_spec_SameBlocks k) := by
  refine closed_ok (tab := [(44, fe_spec_l29Same k)]) (l := []) ti_ok ti_ht mix (List.forall_mem_cons.2 ⟨ok_spec_l29Same k, (List.forall_mem_nil _)⟩) (List.forall_mem_nil _) ⟨⟨Try.f26, (codeOf Try.f26), [.tmp 4], (LOn Bool), by kernel_rfl, by kernel_rfl, by kernel_rfl, by kernel_rfl, rfl, by decide, ⟨by kernel_rfl, ?_, ?_⟩, ?_⟩⟩
  · exact no_loops (by kernel_rfl)
  · exact no_cuts (by kernel_rfl)
  · rintro ⟨a0, b1⟩
    kernel_rfl
/- 45 slices.Equal[[]loop.example/g01005/impl.Block,loop.example/g01005/impl.Block] -/
def slices_Equal_impl_Block_l0 (k : Nat) : Nat → (List (List UInt8 × List UInt8 × List UInt8)) → (List (List UInt8 × List UInt8 × List UInt8)) → Int → Int → (Option Bool) → Option Bool
  | 0, _, _, _, _, _ => none
  | n + 1, s10, s21, x12, x13, e_0 => (if (decide (x13 < x12)) = true then (if 0 ≤ x13 then (s10[x13.toNat]?).bind fun y_1 => (if 0 ≤ x13 then (s21[x13.toNat]?).bind fun y_2 => (if (!(decide (y_1 = y_2))) = true then some false else slices_Equal_impl_Block_l0 k n s10 s21 x12 (w_i64 (x13 + 1)) e_0) else none) else none) else e_0)
def slices_Equal_impl_Block (k : Nat) (s10 : List (List UInt8 × List UInt8 × List UInt8)) (s21 : List (List UInt8 × List UInt8 × List UInt8)) : Option Bool := (if (!(decide ((List.length s10 : Int) = (List.length s21 : Int)))) = true then some false else slices_Equal_impl_Block_l0 k k s10 s21 (List.length s10 : Int) 0 (some true))
def slices_Equal_impl_Block_l0_h : Head := ⟨[(0, (.val (.sl 51 (.st (.pr .str (.pr .str .str)))))), (1, (.val (.sl 51 (.st (.pr .str (.pr .str .str)))))), (12, (.val (.int .i64))), (13, (.val (.int .i64)))], [], []⟩
def slices_Equal_impl_Block_l0_x0 : Head := ⟨[], [], []⟩
def slices_Equal_impl_Block_l0_F (k n : Nat) (x : slices_Equal_impl_Block_l0_h.T) (kx : Nat → St → Option Bool) : Option Bool := slices_Equal_impl_Block_l0 k n x.1.1 x.1.2.1 x.1.2.2.1 x.1.2.2.2.1 (kx 0 (slices_Equal_impl_Block_l0_x0.fill ((), (), ())))
def slices_Equal_impl_Block_O (k : Nat) : Oracles Bool := ⟨fun n => bif Nat.beq n 4 then some (fun σ kx => slices_Equal_impl_Block_l0_h.get σ fun x => slices_Equal_impl_Block_l0_F k k x kx) else none, fun _ => none⟩
def fe_slices_Equal_impl_Block (k : Nat) : FE := ⟨(.pr (.sl 51 (.st (.pr .str (.pr .str .str)))) (.sl 51 (.st (.pr .str (.pr .str .str))))), 1, .bool, fun x => slices_Equal_impl_Block k x.1 x.2⟩
theorem slices_Equal_impl_Block_l0_ok (k : Nat) : LoopOK (mkEnv ti [] (lk []) pins0 pinB0) (slices_Equal_impl_Block_O k) (rdC (mkEnv ti [] (lk []) pins0 pinB0) [.tmp 4] .bool) ((loopsOf (codeOf Try.f45)).getD 0 .skip) (fun σ kx => slices_Equal_impl_Block_l0_h.get σ fun x => slices_Equal_impl_Block_l0_F k k x kx) := by
  refine ⟨slices_Equal_impl_Block_l0_h, [(0, slices_Equal_impl_Block_l0_x0)], fun n x kx => slices_Equal_impl_Block_l0_F k n x kx, k, by kernel_rfl, by kernel_rfl, fun x kx => by kernel_rfl, ?_, fun σ kx => rfl⟩
  rintro n ⟨⟨s10, s21, x12, x13, ⟨⟩⟩, ⟨⟩, ⟨⟩⟩ kx
  kernel_rfl
theorem ok_slices_Equal_impl_Block (k : Nat) : FnOK Try.prog 45 (fe_slices_Equal_impl_Block k) := by
  refine closed_ok (tab := []) (l := []) ti_ok ti_ht mix (List.forall_mem_nil _) (List.forall_mem_nil _) ⟨⟨Try.f45, (codeOf Try.f45), [.tmp 4], (slices_Equal_impl_Block_O k), by kernel_rfl, by kernel_rfl, by kernel_rfl, by kernel_rfl, rfl, by decide, ⟨by kernel_rfl, ?_, ?_⟩, ?_⟩⟩
  · refine loops_of (n := 1) (by kernel_rfl) fun i hi => ?_
    match i, hi with
    | 0, _ => exact loop_of (by kernel_rfl) (slices_Equal_impl_Block_l0_ok k)
    | n + 1, hi => omega
  · exact no_cuts (by kernel_rfl)
  · rintro ⟨s10, s21⟩
    kernel_rfl
/- 28 loop.example/g01005/impl.SameBlocks -/
def impl_SameBlocks (k : Nat) (a0 : List (List UInt8 × List UInt8 × List UInt8)) (b1 : List (List UInt8 × List UInt8 × List UInt8)) : Option Bool := (slices_Equal_impl_Block k a0 b1).bind fun r_1 => some r_1
def fe_impl_SameBlocks (k : Nat) : FE := ⟨(.pr (.sl 51 (.st (.pr .str (.pr .str .str)))) (.sl 51 (.st (.pr .str (.pr .str .str))))), 1, .bool, fun x => impl_SameBlocks k x.1 x.2⟩
theorem ok_impl_SameBlocks (k : Nat) : FnOK Try.prog 28 (fe_impl_SameBlocks k) := by
  refine closed_ok (tab := [(45, fe_slices_Equal_impl_Block k)]) (l := []) ti_ok ti_ht mix (List.forall_mem_cons.2 ⟨ok_slices_Equal_impl_Block k, (List.forall_mem_nil _)⟩) (List.forall_mem_nil _) ⟨⟨Try.f28, (codeOf Try.f28), [.tmp 4], (LOn Bool), by kernel_rfl, by kernel_rfl, by kernel_rfl, by kernel_rfl, rfl, by decide, ⟨by kernel_rfl, ?_, ?_⟩, ?_⟩⟩
  · exact no_loops (by kernel_rfl)
  · exact no_cuts (by kernel_rfl)
  · rintro ⟨a0, b1⟩
    kernel_rfl
/- 46 loop.example/g01005/laws.eqBlock -/
def laws_eqBlock (a0 : List UInt8 × List UInt8 × List UInt8) (b1 : List UInt8 × List UInt8 × List UInt8) : Option Bool := (if (!(decide (a0.1 = b1.1))) = true then some false else (if (!(decide (a0.2.1 = b1.2.1))) = true then some false else (if (!(decide (a0.2.2 = b1.2.2))) = true then some false else some true)))
def fe_laws_eqBlock : FE := ⟨(.pr (.st (.pr .str (.pr .str .str))) (.st (.pr .str (.pr .str .str)))), 1, .bool, fun x => laws_eqBlock x.1 x.2⟩
theorem ok_laws_eqBlock : FnOK Try.prog 46 (fe_laws_eqBlock) := by
  refine closed_ok (tab := []) (l := []) ti_ok ti_ht mix (List.forall_mem_nil _) (List.forall_mem_nil _) ⟨⟨Try.f46, (codeOf Try.f46), [.tmp 4], (LOn Bool), by kernel_rfl, by kernel_rfl, by kernel_rfl, by kernel_rfl, rfl, by decide, ⟨by kernel_rfl, ?_, ?_⟩, ?_⟩⟩
  · exact no_loops (by kernel_rfl)
  · exact no_cuts (by kernel_rfl)
  · rintro ⟨a0, b1⟩
    kernel_rfl
/- 29 loop.example/g01005/laws.eqBlockS -/
def laws_eqBlockS_l0 (k : Nat) : Nat → (List (List UInt8 × List UInt8 × List UInt8)) → (List (List UInt8 × List UInt8 × List UInt8)) → Int → (Option Bool) → Option Bool
  | 0, _, _, _, _ => none
  | n + 1, a0, b1, i5, e_0 => (if (decide (i5 < (List.length a0 : Int))) = true then (if 0 ≤ i5 then (a0[i5.toNat]?).bind fun y_1 => (if 0 ≤ i5 then (b1[i5.toNat]?).bind fun y_2 => (laws_eqBlock y_1 y_2).bind fun r_3 => (if (!r_3) = true then some false else laws_eqBlockS_l0 k n a0 b1 (w_i64 (i5 + 1)) e_0) else none) else none) else e_0)
def laws_eqBlockS (k : Nat) (a0 : List (List UInt8 × List UInt8 × List UInt8)) (b1 : List (List UInt8 × List UInt8 × List UInt8)) : Option Bool := (if (!(decide ((List.length a0 : Int) = (List.length b1 : Int)))) = true then some false else laws_eqBlockS_l0 k k a0 b1 0 (some true))
def laws_eqBlockS_l0_h : Head := ⟨[(0, (.val (.sl 51 (.st (.pr .str (.pr .str .str)))))), (1, (.val (.sl 51 (.st (.pr .str (.pr .str .str)))))), (5, (.val (.int .i64)))], [], []⟩
def laws_eqBlockS_l0_x0 : Head := ⟨[], [], []⟩
def laws_eqBlockS_l0_F (k n : Nat) (x : laws_eqBlockS_l0_h.T) (kx : Nat → St → Option Bool) : Option Bool := laws_eqBlockS_l0 k n x.1.1 x.1.2.1 x.1.2.2.1 (kx 0 (laws_eqBlockS_l0_x0.fill ((), (), ())))
def laws_eqBlockS_O (k : Nat) : Oracles Bool := ⟨fun n => bif Nat.beq n 4 then some (fun σ kx => laws_eqBlockS_l0_h.get σ fun x => laws_eqBlockS_l0_F k k x kx) else none, fun _ => none⟩
def fe_laws_eqBlockS (k : Nat) : FE := ⟨(.pr (.sl 51 (.st (.pr .str (.pr .str .str)))) (.sl 51 (.st (.pr .str (.pr .str .str))))), 1, .bool, fun x => laws_eqBlockS k x.1 x.2⟩
theorem laws_eqBlockS_l0_ok (k : Nat) : LoopOK (mkEnv ti [(46, fe_laws_eqBlock)] (lk []) pins0 pinB0) (laws_eqBlockS_O k) (rdC (mkEnv ti [(46, fe_laws_eqBlock)] (lk []) pins0 pinB0) [.tmp 4] .bool) ((loopsOf (codeOf Try.f29)).getD 0 .skip) (fun σ kx => laws_eqBlockS_l0_h.get σ fun x => laws_eqBlockS_l0_F k k x kx) := by
  refine ⟨laws_eqBlockS_l0_h, [(0, laws_eqBlockS_l0_x0)], fun n x kx => laws_eqBlockS_l0_F k n x kx, k, by kernel_rfl, by kernel_rfl, fun x kx => by kernel_rfl, ?_, fun σ kx => rfl⟩
  rintro n ⟨⟨a0, b1, i5, ⟨⟩⟩, ⟨⟩, ⟨⟩⟩ kx
  kernel_rfl
theorem ok_laws_eqBlockS (k : Nat) : FnOK Try.prog 29 (fe_laws_eqBlockS k) := by
  refine closed_ok (tab := [(46, fe_laws_eqBlock)]) (l := []) ti_ok ti_ht mix (List.forall_mem_cons.2 ⟨ok_laws_eqBlock, (List.forall_mem_nil _)⟩) (List.forall_mem_nil _) ⟨⟨Try.f29, (codeOf Try.f29), [.tmp 4], (laws_eqBlockS_O k), by kernel_rfl, by kernel_rfl, by kernel_rfl, by kernel_rfl, rfl, by decide, ⟨by kernel_rfl, ?_, ?_⟩, ?_⟩⟩
  · refine loops_of (n := 1) (by kernel_rfl) fun i hi => ?_
    match i, hi with
    | 0, _ => exact loop_of (by kernel_rfl) (laws_eqBlockS_l0_ok k)
    | n + 1, hi => omega
  · exact no_cuts (by kernel_rfl)
  · rintro ⟨a0, b1⟩
    kernel_rfl
/- 7 loop.example/g01005/laws.FnExactSameBlocks -/
def laws_FnExactSameBlocks (k : Nat) (aA0 : List (List UInt8 × List UInt8 × List UInt8)) (aB1 : List (List UInt8 × List UInt8 × List UInt8)) : Option Bool := (laws_szBlockS k aA0 1048576).bind fun r_1 => (if (decide (r_1 < 0)) = true then some true else (laws_szBlockS k aB1 r_1).bind fun r_2 => (if (decide (r_2 < 0)) = true then some true else (laws_toBlockS k aA0).bind fun r_3 => (laws_toBlockS k aB1).bind fun r_4 => (spec_SameBlocks k r_3 r_4).bind fun r_5 => (laws_toBlockS k aA0).bind fun r_6 => (laws_toBlockS k aB1).bind fun r_7 => (impl_SameBlocks k r_6 r_7).bind fun r_8 => (if (!(r_8 == r_5)) = true then some false else (laws_toBlockS k aA0).bind fun r_9 => (laws_eqBlockS k r_6 r_9).bind fun r_10 => (if (!r_10) = true then some false else (laws_toBlockS k aB1).bind fun r_11 => (laws_eqBlockS k r_7 r_11).bind fun r_12 => (if (!r_12) = true then some false else some true)))))
def fe_laws_FnExactSameBlocks (k : Nat) : FE := ⟨(.pr (.sl 48 (.st (.pr .str (.pr .str .str)))) (.sl 48 (.st (.pr .str (.pr .str .str))))), 1, .bool, fun x => laws_FnExactSameBlocks k x.1 x.2⟩
theorem ok_laws_FnExactSameBlocks (k : Nat) : FnOK Try.prog 7 (fe_laws_FnExactSameBlocks k) := by
  refine closed_ok (tab := [(25, fe_laws_szBlockS k), (27, fe_laws_toBlockS k), (26, fe_spec_SameBlocks k), (28, fe_impl_SameBlocks k), (29, fe_laws_eqBlockS k)]) (l := []) ti_ok ti_ht mix (List.forall_mem_cons.2 ⟨ok_laws_szBlockS k, (List.forall_mem_cons.2 ⟨ok_laws_toBlockS k, (List.forall_mem_cons.2 ⟨ok_spec_SameBlocks k, (List.forall_mem_cons.2 ⟨ok_impl_SameBlocks k, (List.forall_mem_cons.2 ⟨ok_laws_eqBlockS k, (List.forall_mem_nil _)⟩)⟩)⟩)⟩)⟩) (List.forall_mem_nil _) ⟨⟨Try.f7, (codeOf Try.f7), [.tmp 4], (LOn Bool), by kernel_rfl, by kernel_rfl, by kernel_rfl, by kernel_rfl, rfl, by decide, ⟨by kernel_rfl, ?_, ?_⟩, ?_⟩⟩
  · exact no_loops (by kernel_rfl)
  · exact no_cuts (by kernel_rfl)
  · rintro ⟨aA0, aB1⟩
    kernel_rfl
/- 30 loop.example/g01005/spec.CropPicture -/
def spec_CropPicture_l0 (k : Nat) : Nat → (List (List UInt8)) → Int → Int → Int → Int → Int → (List (List UInt8)) → ((List (List UInt8)) → Option (List (List UInt8) × Int)) → Option (List (List UInt8) × Int)
  | 0, _, _, _, _, _, _, _, _ => none
  | n + 1, lines0, x1, y2, width3, height4, i14, q_7, e_0 => (if (decide (i14 < height4)) = true then (if 0 ≤ (w_i64 (y2 + i14)) then (lines0[(w_i64 (y2 + i14)).toNat]?).bind fun y_8 => (if 0 ≤ x1 ∧ x1 ≤ (w_i64 (x1 + width3)) ∧ (w_i64 (x1 + width3)) ≤ y_8.length then (if (q_7.length + [((y_8.drop x1.toNat).take ((w_i64 (x1 + width3)).toNat - x1.toNat))].length) * 16 ≤ LIM then spec_CropPicture_l0 k n lines0 x1 y2 width3 height4 (w_i64 (i14 + 1)) (q_7 ++ [((y_8.drop x1.toNat).take ((w_i64 (x1 + width3)).toNat - x1.toNat))]) e_0 else none) else none) else none) else e_0 q_7)
def spec_CropPicture (k : Nat) (lines0 : List (List UInt8)) (x1 : Int) (y2 : Int) (width3 : Int) (height4 : Int) : Option (List (List UInt8) × Int) := (spec_l30Ok k lines0).bind fun r_1 => (if (!r_1) = true then some ([], 1) else (if (decide (0 < (List.length lines0 : Int))) = true then (lines0[0]?).bind fun y_2 => (spec_l00In x1 0 (List.length y_2 : Int)).bind fun r_3 => (if (!r_3) = true then some ([], 2) else (spec_l00In width3 0 (w_i64 ((List.length y_2 : Int) - x1))).bind fun r_4 => (if (!r_4) = true then some ([], 2) else (spec_l00In y2 0 (List.length lines0 : Int)).bind fun r_5 => (if (!r_5) = true then some ([], 2) else (spec_l00In height4 0 (w_i64 ((List.length lines0 : Int) - y2))).bind fun r_6 => (if (!r_6) = true then some ([], 2) else spec_CropPicture_l0 k k lines0 x1 y2 width3 height4 0 [] (fun q_9 => some (q_9, 0)))))) else (spec_l00In x1 0 0).bind fun r_10 => (if (!r_10) = true then some ([], 2) else (spec_l00In width3 0 (w_i64 (0 - x1))).bind fun r_11 => (if (!r_11) = true then some ([], 2) else (spec_l00In y2 0 (List.length lines0 : Int)).bind fun r_12 => (if (!r_12) = true then some ([], 2) else (spec_l00In height4 0 (w_i64 ((List.length lines0 : Int) - y2))).bind fun r_13 => (if (!r_13) = true then some ([], 2) else spec_CropPicture_l0 k k lines0 x1 y2 width3 height4 0 [] (fun q_14 => some (q_14, 0))))))))
def spec_CropPicture_l0_h : Head := ⟨[(0, (.val (.sl 9 .str))), (1, (.val (.int .i64))), (2, (.val (.int .i64))), (3, (.val (.int .i64))), (4, (.val (.int .i64))), (13, (.ref 64000000 [])), (14, (.val (.int .i64)))], [(64000000, 9, .str, false)], []⟩
def spec_CropPicture_l0_x0 : Head := ⟨[(13, (.ref 64000000 []))], [(64000000, 9, .str, false)], []⟩
def spec_CropPicture_l0_F (k n : Nat) (x : spec_CropPicture_l0_h.T) (kx : Nat → St → Option (List (List UInt8) × Int)) : Option (List (List UInt8) × Int) := spec_CropPicture_l0 k n x.1.1 x.1.2.1 x.1.2.2.1 x.1.2.2.2.1 x.1.2.2.2.2.1 x.1.2.2.2.2.2.2.1 x.2.1.1 (fun (q_9 : List (List UInt8)) => kx 0 (spec_CropPicture_l0_x0.fill (((), ()), (q_9, ()), ())))
def spec_CropPicture_O (k : Nat) : Oracles (List (List UInt8) × Int) := ⟨fun n => bif Nat.beq n 10 then some (fun σ kx => spec_CropPicture_l0_h.get σ fun x => spec_CropPicture_l0_F k k x kx) else none, fun _ => none⟩
def fe_spec_CropPicture (k : Nat) : FE := ⟨(.pr (.sl 9 .str) (.pr (.int .i64) (.pr (.int .i64) (.pr (.int .i64) (.int .i64))))), 2, (.pr (.sl 9 .str) (.int .i64)), fun x => spec_CropPicture k x.1 x.2.1 x.2.2.1 x.2.2.2.1 x.2.2.2.2⟩
theorem spec_CropPicture_l0_ok (k : Nat) : LoopOK (mkEnv ti [(40, fe_spec_l30Ok k), (47, fe_spec_l00In)] (lk []) pins0 pinB0) (spec_CropPicture_O k) (rdC (mkEnv ti [(40, fe_spec_l30Ok k), (47, fe_spec_l00In)] (lk []) pins0 pinB0) [.tmp 10, .tmp 11] (.pr (.sl 9 .str) (.int .i64))) ((loopsOf (codeOf Try.f30)).getD 0 .skip) (fun σ kx => spec_CropPicture_l0_h.get σ fun x => spec_CropPicture_l0_F k k x kx) := by
  refine ⟨spec_CropPicture_l0_h, [(0, spec_CropPicture_l0_x0)], fun n x kx => spec_CropPicture_l0_F k n x kx, k, by kernel_rfl, by kernel_rfl, fun x kx => by kernel_rfl, ?_, fun σ kx => rfl⟩
  rintro n ⟨⟨lines0, x1, y2, width3, height4, ⟨⟩, i14, ⟨⟩⟩, ⟨q_7, ⟨⟩⟩, ⟨⟩⟩ kx
  kernel_rfl
theorem ok_spec_CropPicture (k : Nat) : FnOK Try.prog 30 (fe_spec_CropPicture k) := by
  refine closed_ok (tab := [(40, fe_spec_l30Ok k), (47, fe_spec_l00In)]) (l := []) ti_ok ti_ht mix (List.forall_mem_cons.2 ⟨ok_spec_l30Ok k, (List.forall_mem_cons.2 ⟨ok_spec_l00In, (List.forall_mem_nil _)⟩)⟩) (List.forall_mem_nil _) ⟨⟨Try.f30, (codeOf Try.f30), [.tmp 10, .tmp 11], (spec_CropPicture_O k), by kernel_rfl, by kernel_rfl, by kernel_rfl, by kernel_rfl, rfl, by decide, ⟨by kernel_rfl, ?_, ?_⟩, ?_⟩⟩
  · refine loops_of (n := 1) (by kernel_rfl) fun i hi => ?_
    match i, hi with
    | 0, _ => exact loop_of (by kernel_rfl) (spec_CropPicture_l0_ok k)
    | n + 1, hi => omega
  · exact no_cuts (by kernel_rfl)
  · rintro ⟨lines0, x1, y2, width3, height4⟩
    kernel_rfl
/- 49 loop.example/g01005/impl.size[string] -/
def impl_size_string (list0 : List (List UInt8)) : Option Int := some (List.length list0 : Int)
def fe_impl_size_string : FE := ⟨(.sl 9 .str), 1, (.int .i64), fun x => impl_size_string x⟩
theorem ok_impl_size_string : FnOK Try.prog 49 (fe_impl_size_string) := by
  refine closed_ok (tab := []) (l := []) ti_ok ti_ht mix (List.forall_mem_nil _) (List.forall_mem_nil _) ⟨⟨Try.f49, (codeOf Try.f49), [.tmp 2], (LOn Int), by kernel_rfl, by kernel_rfl, by kernel_rfl, by kernel_rfl, rfl, by decide, ⟨by kernel_rfl, ?_, ?_⟩, ?_⟩⟩
  · exact no_loops (by kernel_rfl)
  · exact no_cuts (by kernel_rfl)
  · rintro list0
    kernel_rfl
end Go.Proofs.Ytlcophcnioaaoaa.Ev
