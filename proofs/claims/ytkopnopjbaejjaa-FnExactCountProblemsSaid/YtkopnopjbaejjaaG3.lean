/- Functions of the program, as plain ones. No conditions. -/
import Derived.Test.YtkopnopjbaejjaaG2
import Derived.KernelRfl
set_option linter.unusedVariables false
set_option maxRecDepth 100000
namespace Go.Proofs.Ytkopnopjbaejjaa.Ev
open Go.RowKit
noncomputable section
/- 97 loop.example/g01005/spec.l29One -/
def spec_l29One_l0 (k : Nat) : Nat → (List UInt8 × List UInt8 × List UInt8) → Int → ((List UInt8 × List UInt8 × List UInt8) → Option Bool) → Option Bool
  | 0, _, _, _ => none
  | n + 1, b0, i3, e_0 => (if (decide (i3 < (List.length b0.2.2 : Int))) = true then (if 0 ≤ i3 then (b0.2.2[i3.toNat]?).bind fun b_1 => (if (decide ((z_u8 b_1) = 10)) = true then some false else spec_l29One_l0 k n b0 (w_i64 (i3 + 1)) e_0) else none) else e_0 b0)
def spec_l29One (k : Nat) (b0 : List UInt8 × List UInt8 × List UInt8) : Option Bool := spec_l29One_l0 k k b0 0 (fun b_2 => (spec_l01Name k b_2.1).bind fun r_3 => (if r_3 = true then (spec_l01Name k b_2.2.1).bind fun r_4 => (if r_4 = true then some (decide ((List.length b_2.2.2 : Int) ≤ 400)) else some false) else some false))
def spec_l29One_l0_h : Head := ⟨[(0, (.val (.ptr (.st (.pr .str (.pr .str .str)))))), (3, (.val (.int .i64)))], [], []⟩
def spec_l29One_l0_x0 : Head := ⟨[(0, (.val (.ptr (.st (.pr .str (.pr .str .str))))))], [], []⟩
def spec_l29One_l0_F (k n : Nat) (x : spec_l29One_l0_h.T) (kx : Nat → St → Option Bool) : Option Bool := spec_l29One_l0 k n x.1.1 x.1.2.1 (fun (b0 : List UInt8 × List UInt8 × List UInt8) => kx 0 (spec_l29One_l0_x0.fill ((b0, ()), (), ())))
def spec_l29One_O (k : Nat) : Oracles Bool := ⟨fun n => bif Nat.beq n 2 then some (fun σ kx => spec_l29One_l0_h.get σ fun x => spec_l29One_l0_F k k x kx) else none, fun _ => none⟩
def fe_spec_l29One (k : Nat) : FE := ⟨(.ptr (.st (.pr .str (.pr .str .str)))), 1, .bool, fun x => spec_l29One k x⟩
theorem spec_l29One_l0_ok (k : Nat) : LoopOK (mkEnv ti [(129, fe_spec_l01Name k)] (lk []) pins0 pinB0) (spec_l29One_O k) (rdC (mkEnv ti [(129, fe_spec_l01Name k)] (lk []) pins0 pinB0) [.tmp 2] .bool) ((loopsOf (codeOf Try.f97)).getD 0 .skip) (fun σ kx => spec_l29One_l0_h.get σ fun x => spec_l29One_l0_F k k x kx) := by
  refine ⟨spec_l29One_l0_h, [(0, spec_l29One_l0_x0)], fun n x kx => spec_l29One_l0_F k n x kx, k, by kernel_rfl, by kernel_rfl, fun x kx => by kernel_rfl, ?_, fun σ kx => rfl⟩
  rintro n ⟨⟨b0, i3, ⟨⟩⟩, ⟨⟩, ⟨⟩⟩ kx
  kernel_rfl
theorem ok_spec_l29One (k : Nat) : FnOK Try.prog 97 (fe_spec_l29One k) := by
  refine closed_ok (tab := [(129, fe_spec_l01Name k)]) (l := []) ti_ok ti_ht mix (List.forall_mem_cons.2 ⟨ok_spec_l01Name k, (List.forall_mem_nil _)⟩) (List.forall_mem_nil _) ⟨⟨Try.f97, (codeOf Try.f97), [.tmp 2], (spec_l29One_O k), by kernel_rfl, by kernel_rfl, by kernel_rfl, by kernel_rfl, rfl, by decide, ⟨by kernel_rfl, ?_, ?_⟩, ?_⟩⟩
  · refine loops_of (n := 1) (by kernel_rfl) fun i hi => ?_
    match i, hi with
    | 0, _ => exact loop_of (by kernel_rfl) (spec_l29One_l0_ok k)
    | n + 1, hi => omega
  · exact no_cuts (by kernel_rfl)
  · rintro b0
    kernel_rfl
/- 109 loop.example/g01005/spec.l29Before -/
def spec_l29Before (a0 : List UInt8 × List UInt8 × List UInt8) (b1 : List UInt8 × List UInt8 × List UInt8) : Option Bool := (if (Op.bytesLess a0.1 b1.1) = true then some true else (if (decide (a0.1 = b1.1)) = true then some (Op.bytesLess a0.2.1 b1.2.1) else some false))
def fe_spec_l29Before : FE := ⟨(.pr (.ptr (.st (.pr .str (.pr .str .str)))) (.ptr (.st (.pr .str (.pr .str .str))))), 1, .bool, fun x => spec_l29Before x.1 x.2⟩
theorem ok_spec_l29Before : FnOK Try.prog 109 (fe_spec_l29Before) := by
  refine closed_ok (tab := []) (l := []) ti_ok ti_ht mix (List.forall_mem_nil _) (List.forall_mem_nil _) ⟨⟨Try.f109, (codeOf Try.f109), [.tmp 4], (LOn Bool), by kernel_rfl, by kernel_rfl, by kernel_rfl, by kernel_rfl, rfl, by decide, ⟨by kernel_rfl, ?_, ?_⟩, ?_⟩⟩
  · exact no_loops (by kernel_rfl)
  · exact no_cuts (by kernel_rfl)
  · rintro ⟨a0, b1⟩
    kernel_rfl
/- 73 loop.example/g01005/spec.l29Ok -/
def spec_l29Ok_l0 (k : Nat) : Nat → (List (List UInt8 × List UInt8 × List UInt8)) → Int → ((List (List UInt8 × List UInt8 × List UInt8)) → Option Bool) → Option Bool
  | 0, _, _, _ => none
  | n + 1, list0, i3, e_0 => (if (decide (i3 < (List.length list0 : Int))) = true then (if 0 ≤ i3 then (list0[i3.toNat]?).bind fun y_1 => (spec_l29One k y_1).bind fun r_2 => (if (!r_2) = true then some false else (if (decide (0 < i3)) = true then (if 0 ≤ (w_i64 (i3 - 1)) then (list0[(w_i64 (i3 - 1)).toNat]?).bind fun y_3 => (if 0 ≤ i3 then (list0[i3.toNat]?).bind fun y_4 => (spec_l29Before y_3 y_4).bind fun r_5 => (if (!r_5) = true then some false else spec_l29Ok_l0 k n list0 (w_i64 (i3 + 1)) e_0) else none) else none) else spec_l29Ok_l0 k n list0 (w_i64 (i3 + 1)) e_0)) else none) else e_0 list0)
def spec_l29Ok (k : Nat) (list0 : List (List UInt8 × List UInt8 × List UInt8)) : Option Bool := spec_l29Ok_l0 k k list0 0 (fun list_6 => some (decide ((List.length list_6 : Int) ≤ 32)))
def spec_l29Ok_l0_h : Head := ⟨[(0, (.val (.sl 69 (.st (.pr .str (.pr .str .str)))))), (3, (.val (.int .i64)))], [], []⟩
def spec_l29Ok_l0_x0 : Head := ⟨[(0, (.val (.sl 69 (.st (.pr .str (.pr .str .str))))))], [], []⟩
def spec_l29Ok_l0_F (k n : Nat) (x : spec_l29Ok_l0_h.T) (kx : Nat → St → Option Bool) : Option Bool := spec_l29Ok_l0 k n x.1.1 x.1.2.1 (fun (list0 : List (List UInt8 × List UInt8 × List UInt8)) => kx 0 (spec_l29Ok_l0_x0.fill ((list0, ()), (), ())))
def spec_l29Ok_O (k : Nat) : Oracles Bool := ⟨fun n => bif Nat.beq n 2 then some (fun σ kx => spec_l29Ok_l0_h.get σ fun x => spec_l29Ok_l0_F k k x kx) else none, fun _ => none⟩
def fe_spec_l29Ok (k : Nat) : FE := ⟨(.sl 69 (.st (.pr .str (.pr .str .str)))), 1, .bool, fun x => spec_l29Ok k x⟩
theorem spec_l29Ok_l0_ok (k : Nat) : LoopOK (mkEnv ti [(97, fe_spec_l29One k), (109, fe_spec_l29Before)] (lk []) pins0 pinB0) (spec_l29Ok_O k) (rdC (mkEnv ti [(97, fe_spec_l29One k), (109, fe_spec_l29Before)] (lk []) pins0 pinB0) [.tmp 2] .bool) ((loopsOf (codeOf Try.f73)).getD 0 .skip) (fun σ kx => spec_l29Ok_l0_h.get σ fun x => spec_l29Ok_l0_F k k x kx) := by
  refine ⟨spec_l29Ok_l0_h, [(0, spec_l29Ok_l0_x0)], fun n x kx => spec_l29Ok_l0_F k n x kx, k, by kernel_rfl, by kernel_rfl, fun x kx => by kernel_rfl, ?_, fun σ kx => rfl⟩
  rintro n ⟨⟨list0, i3, ⟨⟩⟩, ⟨⟩, ⟨⟩⟩ kx
  kernel_rfl
theorem ok_spec_l29Ok (k : Nat) : FnOK Try.prog 73 (fe_spec_l29Ok k) := by
  refine closed_ok (tab := [(97, fe_spec_l29One k), (109, fe_spec_l29Before)]) (l := []) ti_ok ti_ht mix (List.forall_mem_cons.2 ⟨ok_spec_l29One k, (List.forall_mem_cons.2 ⟨ok_spec_l29Before, (List.forall_mem_nil _)⟩)⟩) (List.forall_mem_nil _) ⟨⟨Try.f73, (codeOf Try.f73), [.tmp 2], (spec_l29Ok_O k), by kernel_rfl, by kernel_rfl, by kernel_rfl, by kernel_rfl, rfl, by decide, ⟨by kernel_rfl, ?_, ?_⟩, ?_⟩⟩
  · refine loops_of (n := 1) (by kernel_rfl) fun i hi => ?_
    match i, hi with
    | 0, _ => exact loop_of (by kernel_rfl) (spec_l29Ok_l0_ok k)
    | n + 1, hi => omega
  · exact no_cuts (by kernel_rfl)
  · rintro list0
    kernel_rfl
/- 24 loop.example/g01005/spec.ValidBlocks -/
def spec_ValidBlocks (k : Nat) (list0 : List (List UInt8 × List UInt8 × List UInt8)) : Option Bool := (spec_l29Ok k list0).bind fun r_1 => some r_1
def fe_spec_ValidBlocks (k : Nat) : FE := ⟨(.sl 69 (.st (.pr .str (.pr .str .str)))), 1, .bool, fun x => spec_ValidBlocks k x⟩
theorem ok_spec_ValidBlocks (k : Nat) : FnOK Try.prog 24 (fe_spec_ValidBlocks k) := by
  refine closed_ok (tab := [(73, fe_spec_l29Ok k)]) (l := []) ti_ok ti_ht mix (List.forall_mem_cons.2 ⟨ok_spec_l29Ok k, (List.forall_mem_nil _)⟩) (List.forall_mem_nil _) ⟨⟨Try.f24, (codeOf Try.f24), [.tmp 2], (LOn Bool), by kernel_rfl, by kernel_rfl, by kernel_rfl, by kernel_rfl, rfl, by decide, ⟨by kernel_rfl, ?_, ?_⟩, ?_⟩⟩
  · exact no_loops (by kernel_rfl)
  · exact no_cuts (by kernel_rfl)
  · rintro list0
    kernel_rfl
/- 110 loop.example/g01005/impl.IsName -/
def impl_IsName_l0 (k : Nat) : Nat → Int → Int → (List Int) → (Option Bool) → Option Bool
  | 0, _, _, _, _ => none
  | n + 1, x17, x18, q_1, e_0 => (if (decide (x18 < x17)) = true then (if 0 ≤ x18 ∧ x18.toNat < List.length q_1 then (q_1[x18.toNat]?).bind fun y_2 => (if (decide (97 ≤ y_2)) = true then (if (decide (48 ≤ y_2)) = true then (if (!(decide (y_2 ≤ 122))) = true then (if (decide (x18 = 0)) = true then some false else (if (!(decide (y_2 ≤ 57))) = true then some false else impl_IsName_l0 k n x17 (w_i64 (x18 + 1)) q_1 e_0)) else impl_IsName_l0 k n x17 (w_i64 (x18 + 1)) q_1 e_0) else (if (!(decide (y_2 ≤ 122))) = true then (if (decide (x18 = 0)) = true then some false else some false) else impl_IsName_l0 k n x17 (w_i64 (x18 + 1)) q_1 e_0)) else (if (decide (48 ≤ y_2)) = true then (if (decide (x18 = 0)) = true then some false else (if (!(decide (y_2 ≤ 57))) = true then some false else impl_IsName_l0 k n x17 (w_i64 (x18 + 1)) q_1 e_0)) else (if (decide (x18 = 0)) = true then some false else some false))) else none) else e_0)
def impl_IsName (k : Nat) (s0 : List UInt8) : Option Bool := (if (decide ((List.length s0 : Int) < 1)) = true then some false else (if (decide (10 < (List.length s0 : Int))) = true then some false else (if s0.length ≤ LIM then impl_IsName_l0 k k (List.length (of_S s0) : Int) 0 (of_S s0) (some true) else none)))
def impl_IsName_l0_h : Head := ⟨[(16, (.ref 64000000 [])), (17, (.val (.int .i64))), (18, (.val (.int .i64)))], [(64000000, 5, (.int .u8), true)], []⟩
def impl_IsName_l0_x0 : Head := ⟨[], [], []⟩
def impl_IsName_l0_F (k n : Nat) (x : impl_IsName_l0_h.T) (kx : Nat → St → Option Bool) : Option Bool := impl_IsName_l0 k n x.1.2.1 x.1.2.2.1 x.2.1.1 (kx 0 (impl_IsName_l0_x0.fill ((), (), ())))
def impl_IsName_O (k : Nat) : Oracles Bool := ⟨fun n => bif Nat.beq n 4 then some (fun σ kx => impl_IsName_l0_h.get σ fun x => impl_IsName_l0_F k k x kx) else none, fun _ => none⟩
def fe_impl_IsName (k : Nat) : FE := ⟨.str, 1, .bool, fun x => impl_IsName k x⟩
theorem impl_IsName_l0_ok (k : Nat) : LoopOK (mkEnv ti [] (lk []) pins0 pinB0) (impl_IsName_O k) (rdC (mkEnv ti [] (lk []) pins0 pinB0) [.tmp 2] .bool) ((loopsOf (codeOf Try.f110)).getD 0 .skip) (fun σ kx => impl_IsName_l0_h.get σ fun x => impl_IsName_l0_F k k x kx) := by
  refine ⟨impl_IsName_l0_h, [(0, impl_IsName_l0_x0)], fun n x kx => impl_IsName_l0_F k n x kx, k, by kernel_rfl, by kernel_rfl, fun x kx => by kernel_rfl, ?_, fun σ kx => rfl⟩
  rintro n ⟨⟨⟨⟩, x17, x18, ⟨⟩⟩, ⟨q_1, ⟨⟩⟩, ⟨⟩⟩ kx
  kernel_rfl
theorem ok_impl_IsName (k : Nat) : FnOK Try.prog 110 (fe_impl_IsName k) := by
  refine closed_ok (tab := []) (l := []) ti_ok ti_ht mix (List.forall_mem_nil _) (List.forall_mem_nil _) ⟨⟨Try.f110, (codeOf Try.f110), [.tmp 2], (impl_IsName_O k), by kernel_rfl, by kernel_rfl, by kernel_rfl, by kernel_rfl, rfl, by decide, ⟨by kernel_rfl, ?_, ?_⟩, ?_⟩⟩
  · refine loops_of (n := 1) (by kernel_rfl) fun i hi => ?_
    match i, hi with
    | 0, _ => exact loop_of (by kernel_rfl) (impl_IsName_l0_ok k)
    | n + 1, hi => omega
  · exact no_cuts (by kernel_rfl)
  · rintro s0
    kernel_rfl
/- 192 internal/bytealg.IndexByteString (by hand) -/
def bytealg_IndexByteString (s : List UInt8) (c : Int) : Option Int := some (Lib.indexByte s (c.toNat.toUInt8))
abbrev fe_bytealg_IndexByteString : FE := fe_indexByteString
theorem ok_bytealg_IndexByteString : FnOK Try.prog 192 fe_bytealg_IndexByteString := ok_indexByteString (fn := Try.f192) (by kernel_rfl) (by kernel_rfl) (by kernel_rfl) (by kernel_rfl) (by kernel_rfl)
/- 186 internal/stringslite.IndexByte -/
def stringslite_IndexByte (s0 : List UInt8) (c1 : Int) : Option Int := (bytealg_IndexByteString s0 c1).bind fun r_1 => some r_1
def fe_stringslite_IndexByte : FE := ⟨(.pr .str (.int .u8)), 1, (.int .i64), fun x => stringslite_IndexByte x.1 x.2⟩
theorem ok_stringslite_IndexByte : FnOK Try.prog 186 (fe_stringslite_IndexByte) := by
  refine closed_ok (tab := [(192, fe_bytealg_IndexByteString)]) (l := []) ti_ok ti_ht mix (List.forall_mem_cons.2 ⟨ok_bytealg_IndexByteString, (List.forall_mem_nil _)⟩) (List.forall_mem_nil _) ⟨⟨Try.f186, (codeOf Try.f186), [.tmp 4], (LOn Int), by kernel_rfl, by kernel_rfl, by kernel_rfl, by kernel_rfl, rfl, by decide, ⟨by kernel_rfl, ?_, ?_⟩, ?_⟩⟩
  · exact no_loops (by kernel_rfl)
  · exact no_cuts (by kernel_rfl)
  · rintro ⟨s0, c1⟩
    kernel_rfl
/- 175 internal/stringslite.Index -/
def stringslite_Index (s0 : List UInt8) (substr1 : List UInt8) : Option Int := (if (decide ((List.length substr1 : Int) = 0)) = true then some 0 else (if (decide (substr1 = s0)) = true then some 0 else (if (decide ((List.length substr1 : Int) = 1)) = true then (substr1[0]?).bind fun b_1 => (stringslite_IndexByte s0 (z_u8 b_1)).bind fun r_2 => some r_2 else (if (decide ((List.length s0 : Int) ≤ (List.length substr1 : Int))) = true then some (-1) else none))))
def fe_stringslite_Index : FE := ⟨(.pr .str .str), 1, (.int .i64), fun x => stringslite_Index x.1 x.2⟩
theorem ok_stringslite_Index : FnOK Try.prog 175 (fe_stringslite_Index) := by
  refine closed_ok (tab := [(186, fe_stringslite_IndexByte)]) (l := []) ti_ok ti_ht mix (List.forall_mem_cons.2 ⟨ok_stringslite_IndexByte, (List.forall_mem_nil _)⟩) (List.forall_mem_nil _) ⟨⟨Try.f175, (codeOf Try.f175), [.tmp 4], (LOn Int), by kernel_rfl, by kernel_rfl, by kernel_rfl, by kernel_rfl, rfl, by decide, ⟨by kernel_rfl, ?_, ?_⟩, ?_⟩⟩
  · exact no_loops (by kernel_rfl)
  · exact no_cuts (by kernel_rfl)
  · rintro ⟨s0, substr1⟩
    kernel_rfl
/- 147 strings.Index -/
def strings_Index (s0 : List UInt8) (substr1 : List UInt8) : Option Int := (stringslite_Index s0 substr1).bind fun r_1 => some r_1
def fe_strings_Index : FE := ⟨(.pr .str .str), 1, (.int .i64), fun x => strings_Index x.1 x.2⟩
theorem ok_strings_Index : FnOK Try.prog 147 (fe_strings_Index) := by
  refine closed_ok (tab := [(175, fe_stringslite_Index)]) (l := []) ti_ok ti_ht mix (List.forall_mem_cons.2 ⟨ok_stringslite_Index, (List.forall_mem_nil _)⟩) (List.forall_mem_nil _) ⟨⟨Try.f147, (codeOf Try.f147), [.tmp 4], (LOn Int), by kernel_rfl, by kernel_rfl, by kernel_rfl, by kernel_rfl, rfl, by decide, ⟨by kernel_rfl, ?_, ?_⟩, ?_⟩⟩
  · exact no_loops (by kernel_rfl)
  · exact no_cuts (by kernel_rfl)
  · rintro ⟨s0, substr1⟩
    kernel_rfl
/- 111 strings.Contains -/
def strings_Contains (s0 : List UInt8) (substr1 : List UInt8) : Option Bool := (strings_Index s0 substr1).bind fun r_1 => some (decide (0 ≤ r_1))
def fe_strings_Contains : FE := ⟨(.pr .str .str), 1, .bool, fun x => strings_Contains x.1 x.2⟩
theorem ok_strings_Contains : FnOK Try.prog 111 (fe_strings_Contains) := by
  refine closed_ok (tab := [(147, fe_strings_Index)]) (l := []) ti_ok ti_ht mix (List.forall_mem_cons.2 ⟨ok_strings_Index, (List.forall_mem_nil _)⟩) (List.forall_mem_nil _) ⟨⟨Try.f111, (codeOf Try.f111), [.tmp 4], (LOn Bool), by kernel_rfl, by kernel_rfl, by kernel_rfl, by kernel_rfl, rfl, by decide, ⟨by kernel_rfl, ?_, ?_⟩, ?_⟩⟩
  · exact no_loops (by kernel_rfl)
  · exact no_cuts (by kernel_rfl)
  · rintro ⟨s0, substr1⟩
    kernel_rfl
/- 74 loop.example/g01005/impl.ValidBlock -/
def impl_ValidBlock (k : Nat) (b0 : List UInt8 × List UInt8 × List UInt8) : Option Bool := (impl_IsName k b0.1).bind fun r_1 => (if r_1 = true then (impl_IsName k b0.2.1).bind fun r_2 => (if r_2 = true then (if (decide ((List.length b0.2.2 : Int) ≤ 400)) = true then (strings_Contains b0.2.2 [10]).bind fun r_3 => some (!r_3) else some false) else some false) else some false)
def fe_impl_ValidBlock (k : Nat) : FE := ⟨(.st (.pr .str (.pr .str .str))), 1, .bool, fun x => impl_ValidBlock k x⟩
theorem ok_impl_ValidBlock (k : Nat) : FnOK Try.prog 74 (fe_impl_ValidBlock k) := by
  refine closed_ok (tab := [(110, fe_impl_IsName k), (111, fe_strings_Contains)]) (l := []) ti_ok ti_ht mix (List.forall_mem_cons.2 ⟨ok_impl_IsName k, (List.forall_mem_cons.2 ⟨ok_strings_Contains, (List.forall_mem_nil _)⟩)⟩) (List.forall_mem_nil _) ⟨⟨Try.f74, (codeOf Try.f74), [.tmp 2], (LOn Bool), by kernel_rfl, by kernel_rfl, by kernel_rfl, by kernel_rfl, rfl, by decide, ⟨by kernel_rfl, ?_, ?_⟩, ?_⟩⟩
  · exact no_loops (by kernel_rfl)
  · exact no_cuts (by kernel_rfl)
  · rintro b0
    kernel_rfl
/- 148 cmp.isNaN[string] -/
def cmp_isNaN_string (x0 : List UInt8) : Option Bool := some (!(decide (x0 = x0)))
def fe_cmp_isNaN_string : FE := ⟨.str, 1, .bool, fun x => cmp_isNaN_string x⟩
theorem ok_cmp_isNaN_string : FnOK Try.prog 148 (fe_cmp_isNaN_string) := by
  refine closed_ok (tab := []) (l := []) ti_ok ti_ht mix (List.forall_mem_nil _) (List.forall_mem_nil _) ⟨⟨Try.f148, (codeOf Try.f148), [.tmp 2], (LOn Bool), by kernel_rfl, by kernel_rfl, by kernel_rfl, by kernel_rfl, rfl, by decide, ⟨by kernel_rfl, ?_, ?_⟩, ?_⟩⟩
  · exact no_loops (by kernel_rfl)
  · exact no_cuts (by kernel_rfl)
  · rintro x0
    kernel_rfl
/- 113 cmp.Compare[string] -/
def cmp_Compare_string (x0 : List UInt8) (y1 : List UInt8) : Option Int := (cmp_isNaN_string x0).bind fun r_1 => (cmp_isNaN_string y1).bind fun r_2 => (if r_1 = true then (if r_2 = true then some 0 else some (-1)) else (if r_2 = true then some 1 else (if (Op.bytesLess x0 y1) = true then some (-1) else (if (!(Op.bytesLess x0 y1 || decide (x0 = y1))) = true then some 1 else some 0))))
def fe_cmp_Compare_string : FE := ⟨(.pr .str .str), 1, (.int .i64), fun x => cmp_Compare_string x.1 x.2⟩
theorem ok_cmp_Compare_string : FnOK Try.prog 113 (fe_cmp_Compare_string) := by
  refine closed_ok (tab := [(148, fe_cmp_isNaN_string)]) (l := []) ti_ok ti_ht mix (List.forall_mem_cons.2 ⟨ok_cmp_isNaN_string, (List.forall_mem_nil _)⟩) (List.forall_mem_nil _) ⟨⟨Try.f113, (codeOf Try.f113), [.tmp 4], (LOn Int), by kernel_rfl, by kernel_rfl, by kernel_rfl, by kernel_rfl, rfl, by decide, ⟨by kernel_rfl, ?_, ?_⟩, ?_⟩⟩
  · exact no_loops (by kernel_rfl)
  · exact no_cuts (by kernel_rfl)
  · rintro ⟨x0, y1⟩
    kernel_rfl
/- 112 cmp.Or[int] -/
def cmp_Or_int_l0 (k : Nat) : Nat → Int → (List Int) → Int → Int → (Int → Option Int) → Option Int
  | 0, _, _, _, _, _ => none
  | n + 1, zero3, x6, x7, x8, e_0 => (if (decide (x8 < x7)) = true then (if 0 ≤ x8 then (x6[x8.toNat]?).bind fun y_1 => (if (!(decide (y_1 = zero3))) = true then some y_1 else cmp_Or_int_l0 k n zero3 x6 x7 (w_i64 (x8 + 1)) e_0) else none) else e_0 zero3)
def cmp_Or_int (k : Nat) (vals0 : List Int) : Option Int := cmp_Or_int_l0 k k 0 vals0 (List.length vals0 : Int) 0 (fun zero_2 => some zero_2)
def cmp_Or_int_l0_h : Head := ⟨[(3, (.val (.int .i64))), (6, (.val (.sl 3 (.int .i64)))), (7, (.val (.int .i64))), (8, (.val (.int .i64)))], [], []⟩
def cmp_Or_int_l0_x0 : Head := ⟨[(3, (.val (.int .i64)))], [], []⟩
def cmp_Or_int_l0_F (k n : Nat) (x : cmp_Or_int_l0_h.T) (kx : Nat → St → Option Int) : Option Int := cmp_Or_int_l0 k n x.1.1 x.1.2.1 x.1.2.2.1 x.1.2.2.2.1 (fun (zero3 : Int) => kx 0 (cmp_Or_int_l0_x0.fill ((zero3, ()), (), ())))
def cmp_Or_int_O (k : Nat) : Oracles Int := ⟨fun n => bif Nat.beq n 3 then some (fun σ kx => cmp_Or_int_l0_h.get σ fun x => cmp_Or_int_l0_F k k x kx) else none, fun _ => none⟩
def fe_cmp_Or_int (k : Nat) : FE := ⟨(.sl 3 (.int .i64)), 1, (.int .i64), fun x => cmp_Or_int k x⟩
theorem cmp_Or_int_l0_ok (k : Nat) : LoopOK (mkEnv ti [] (lk []) pins0 pinB0) (cmp_Or_int_O k) (rdC (mkEnv ti [] (lk []) pins0 pinB0) [.tmp 2] (.int .i64)) ((loopsOf (codeOf Try.f112)).getD 0 .skip) (fun σ kx => cmp_Or_int_l0_h.get σ fun x => cmp_Or_int_l0_F k k x kx) := by
  refine ⟨cmp_Or_int_l0_h, [(0, cmp_Or_int_l0_x0)], fun n x kx => cmp_Or_int_l0_F k n x kx, k, by kernel_rfl, by kernel_rfl, fun x kx => by kernel_rfl, ?_, fun σ kx => rfl⟩
  rintro n ⟨⟨zero3, x6, x7, x8, ⟨⟩⟩, ⟨⟩, ⟨⟩⟩ kx
  kernel_rfl
theorem ok_cmp_Or_int (k : Nat) : FnOK Try.prog 112 (fe_cmp_Or_int k) := by
  refine closed_ok (tab := []) (l := []) ti_ok ti_ht mix (List.forall_mem_nil _) (List.forall_mem_nil _) ⟨⟨Try.f112, (codeOf Try.f112), [.tmp 2], (cmp_Or_int_O k), by kernel_rfl, by kernel_rfl, by kernel_rfl, by kernel_rfl, rfl, by decide, ⟨by kernel_rfl, ?_, ?_⟩, ?_⟩⟩
  · refine loops_of (n := 1) (by kernel_rfl) fun i hi => ?_
    match i, hi with
    | 0, _ => exact loop_of (by kernel_rfl) (cmp_Or_int_l0_ok k)
    | n + 1, hi => omega
  · exact no_cuts (by kernel_rfl)
  · rintro vals0
    kernel_rfl
/- 75 loop.example/g01005/impl.compareBlocks -/
def impl_compareBlocks (k : Nat) (a0 : List UInt8 × List UInt8 × List UInt8) (b1 : List UInt8 × List UInt8 × List UInt8) : Option Int := (cmp_Compare_string a0.1 b1.1).bind fun r_1 => (cmp_Compare_string a0.2.1 b1.2.1).bind fun r_2 => (cmp_Or_int k [r_1, r_2]).bind fun r_3 => some r_3
def fe_impl_compareBlocks (k : Nat) : FE := ⟨(.pr (.st (.pr .str (.pr .str .str))) (.st (.pr .str (.pr .str .str)))), 1, (.int .i64), fun x => impl_compareBlocks k x.1 x.2⟩
theorem ok_impl_compareBlocks (k : Nat) : FnOK Try.prog 75 (fe_impl_compareBlocks k) := by
  refine closed_ok (tab := [(113, fe_cmp_Compare_string), (112, fe_cmp_Or_int k)]) (l := []) ti_ok ti_ht mix (List.forall_mem_cons.2 ⟨ok_cmp_Compare_string, (List.forall_mem_cons.2 ⟨ok_cmp_Or_int k, (List.forall_mem_nil _)⟩)⟩) (List.forall_mem_nil _) ⟨⟨Try.f75, (codeOf Try.f75), [.tmp 4], (LOn Int), by kernel_rfl, by kernel_rfl, by kernel_rfl, by kernel_rfl, rfl, by decide, ⟨by kernel_rfl, ?_, ?_⟩, ?_⟩⟩
  · exact no_loops (by kernel_rfl)
  · exact no_cuts (by kernel_rfl)
  · rintro ⟨a0, b1⟩
    kernel_rfl
/- 26 loop.example/g01005/impl.ValidBlocks -/
def impl_ValidBlocks_l0 (k : Nat) : Nat → (List (List UInt8 × List UInt8 × List UInt8)) → (List (List UInt8 × List UInt8 × List UInt8)) → Int → Int → ((List (List UInt8 × List UInt8 × List UInt8)) → Option Bool) → Option Bool
  | 0, _, _, _, _, _ => none
  | n + 1, list0, x5, x6, x7, e_0 => (if (decide (x7 < x6)) = true then (if 0 ≤ x7 then (x5[x7.toNat]?).bind fun y_1 => (impl_ValidBlock k y_1).bind fun r_2 => (if (!r_2) = true then some false else (if (decide (0 < x7)) = true then (if 0 ≤ (w_i64 (x7 - 1)) then (list0[(w_i64 (x7 - 1)).toNat]?).bind fun y_3 => (impl_compareBlocks k y_3 y_1).bind fun r_4 => (if (decide (0 ≤ r_4)) = true then some false else impl_ValidBlocks_l0 k n list0 x5 x6 (w_i64 (x7 + 1)) e_0) else none) else impl_ValidBlocks_l0 k n list0 x5 x6 (w_i64 (x7 + 1)) e_0)) else none) else e_0 list0)
def impl_ValidBlocks (k : Nat) (list0 : List (List UInt8 × List UInt8 × List UInt8)) : Option Bool := impl_ValidBlocks_l0 k k list0 list0 (List.length list0 : Int) 0 (fun list_5 => some (decide ((List.length list_5 : Int) ≤ 32)))
def impl_ValidBlocks_l0_h : Head := ⟨[(0, (.val (.sl 69 (.st (.pr .str (.pr .str .str)))))), (5, (.val (.sl 69 (.st (.pr .str (.pr .str .str)))))), (6, (.val (.int .i64))), (7, (.val (.int .i64)))], [], []⟩
def impl_ValidBlocks_l0_x0 : Head := ⟨[(0, (.val (.sl 69 (.st (.pr .str (.pr .str .str))))))], [], []⟩
def impl_ValidBlocks_l0_F (k n : Nat) (x : impl_ValidBlocks_l0_h.T) (kx : Nat → St → Option Bool) : Option Bool := impl_ValidBlocks_l0 k n x.1.1 x.1.2.1 x.1.2.2.1 x.1.2.2.2.1 (fun (list0 : List (List UInt8 × List UInt8 × List UInt8)) => kx 0 (impl_ValidBlocks_l0_x0.fill ((list0, ()), (), ())))
def impl_ValidBlocks_O (k : Nat) : Oracles Bool := ⟨fun n => bif Nat.beq n 2 then some (fun σ kx => impl_ValidBlocks_l0_h.get σ fun x => impl_ValidBlocks_l0_F k k x kx) else none, fun _ => none⟩
def fe_impl_ValidBlocks (k : Nat) : FE := ⟨(.sl 69 (.st (.pr .str (.pr .str .str)))), 1, .bool, fun x => impl_ValidBlocks k x⟩
theorem impl_ValidBlocks_l0_ok (k : Nat) : LoopOK (mkEnv ti [(74, fe_impl_ValidBlock k), (75, fe_impl_compareBlocks k)] (lk []) pins0 pinB0) (impl_ValidBlocks_O k) (rdC (mkEnv ti [(74, fe_impl_ValidBlock k), (75, fe_impl_compareBlocks k)] (lk []) pins0 pinB0) [.tmp 2] .bool) ((loopsOf (codeOf Try.f26)).getD 0 .skip) (fun σ kx => impl_ValidBlocks_l0_h.get σ fun x => impl_ValidBlocks_l0_F k k x kx) := by
  refine ⟨impl_ValidBlocks_l0_h, [(0, impl_ValidBlocks_l0_x0)], fun n x kx => impl_ValidBlocks_l0_F k n x kx, k, by kernel_rfl, by kernel_rfl, fun x kx => by kernel_rfl, ?_, fun σ kx => rfl⟩
  rintro n ⟨⟨list0, x5, x6, x7, ⟨⟩⟩, ⟨⟩, ⟨⟩⟩ kx
  kernel_rfl
theorem ok_impl_ValidBlocks (k : Nat) : FnOK Try.prog 26 (fe_impl_ValidBlocks k) := by
  refine closed_ok (tab := [(74, fe_impl_ValidBlock k), (75, fe_impl_compareBlocks k)]) (l := []) ti_ok ti_ht mix (List.forall_mem_cons.2 ⟨ok_impl_ValidBlock k, (List.forall_mem_cons.2 ⟨ok_impl_compareBlocks k, (List.forall_mem_nil _)⟩)⟩) (List.forall_mem_nil _) ⟨⟨Try.f26, (codeOf Try.f26), [.tmp 2], (impl_ValidBlocks_O k), by kernel_rfl, by kernel_rfl, by kernel_rfl, by kernel_rfl, rfl, by decide, ⟨by kernel_rfl, ?_, ?_⟩, ?_⟩⟩
  · refine loops_of (n := 1) (by kernel_rfl) fun i hi => ?_
    match i, hi with
    | 0, _ => exact loop_of (by kernel_rfl) (impl_ValidBlocks_l0_ok k)
    | n + 1, hi => omega
  · exact no_cuts (by kernel_rfl)
  · rintro list0
    kernel_rfl
/- 76 loop.example/g01005/laws.eqBlock -/
def laws_eqBlock (a0 : List UInt8 × List UInt8 × List UInt8) (b1 : List UInt8 × List UInt8 × List UInt8) : Option Bool := (if (!(decide (a0.1 = b1.1))) = true then some false else (if (!(decide (a0.2.1 = b1.2.1))) = true then some false else (if (!(decide (a0.2.2 = b1.2.2))) = true then some false else some true)))
def fe_laws_eqBlock : FE := ⟨(.pr (.st (.pr .str (.pr .str .str))) (.st (.pr .str (.pr .str .str)))), 1, .bool, fun x => laws_eqBlock x.1 x.2⟩
theorem ok_laws_eqBlock : FnOK Try.prog 76 (fe_laws_eqBlock) := by
  refine closed_ok (tab := []) (l := []) ti_ok ti_ht mix (List.forall_mem_nil _) (List.forall_mem_nil _) ⟨⟨Try.f76, (codeOf Try.f76), [.tmp 4], (LOn Bool), by kernel_rfl, by kernel_rfl, by kernel_rfl, by kernel_rfl, rfl, by decide, ⟨by kernel_rfl, ?_, ?_⟩, ?_⟩⟩
  · exact no_loops (by kernel_rfl)
  · exact no_cuts (by kernel_rfl)
  · rintro ⟨a0, b1⟩
    kernel_rfl
/- 27 loop.example/g01005/laws.eqBlockS -/
def laws_eqBlockS_l0 (k : Nat) : Nat → (List (List UInt8 × List UInt8 × List UInt8)) → (List (List UInt8 × List UInt8 × List UInt8)) → Int → (Option Bool) → Option Bool
  | 0, _, _, _, _ => none
  | n + 1, a0, b1, i5, e_0 => (if (decide (i5 < (List.length a0 : Int))) = true then (if 0 ≤ i5 then (a0[i5.toNat]?).bind fun y_1 => (if 0 ≤ i5 then (b1[i5.toNat]?).bind fun y_2 => (laws_eqBlock y_1 y_2).bind fun r_3 => (if (!r_3) = true then some false else laws_eqBlockS_l0 k n a0 b1 (w_i64 (i5 + 1)) e_0) else none) else none) else e_0)
def laws_eqBlockS (k : Nat) (a0 : List (List UInt8 × List UInt8 × List UInt8)) (b1 : List (List UInt8 × List UInt8 × List UInt8)) : Option Bool := (if (!(decide ((List.length a0 : Int) = (List.length b1 : Int)))) = true then some false else laws_eqBlockS_l0 k k a0 b1 0 (some true))
def laws_eqBlockS_l0_h : Head := ⟨[(0, (.val (.sl 69 (.st (.pr .str (.pr .str .str)))))), (1, (.val (.sl 69 (.st (.pr .str (.pr .str .str)))))), (5, (.val (.int .i64)))], [], []⟩
def laws_eqBlockS_l0_x0 : Head := ⟨[], [], []⟩
def laws_eqBlockS_l0_F (k n : Nat) (x : laws_eqBlockS_l0_h.T) (kx : Nat → St → Option Bool) : Option Bool := laws_eqBlockS_l0 k n x.1.1 x.1.2.1 x.1.2.2.1 (kx 0 (laws_eqBlockS_l0_x0.fill ((), (), ())))
def laws_eqBlockS_O (k : Nat) : Oracles Bool := ⟨fun n => bif Nat.beq n 4 then some (fun σ kx => laws_eqBlockS_l0_h.get σ fun x => laws_eqBlockS_l0_F k k x kx) else none, fun _ => none⟩
def fe_laws_eqBlockS (k : Nat) : FE := ⟨(.pr (.sl 69 (.st (.pr .str (.pr .str .str)))) (.sl 69 (.st (.pr .str (.pr .str .str))))), 1, .bool, fun x => laws_eqBlockS k x.1 x.2⟩
theorem laws_eqBlockS_l0_ok (k : Nat) : LoopOK (mkEnv ti [(76, fe_laws_eqBlock)] (lk []) pins0 pinB0) (laws_eqBlockS_O k) (rdC (mkEnv ti [(76, fe_laws_eqBlock)] (lk []) pins0 pinB0) [.tmp 4] .bool) ((loopsOf (codeOf Try.f27)).getD 0 .skip) (fun σ kx => laws_eqBlockS_l0_h.get σ fun x => laws_eqBlockS_l0_F k k x kx) := by
  refine ⟨laws_eqBlockS_l0_h, [(0, laws_eqBlockS_l0_x0)], fun n x kx => laws_eqBlockS_l0_F k n x kx, k, by kernel_rfl, by kernel_rfl, fun x kx => by kernel_rfl, ?_, fun σ kx => rfl⟩
  rintro n ⟨⟨a0, b1, i5, ⟨⟩⟩, ⟨⟩, ⟨⟩⟩ kx
  kernel_rfl
theorem ok_laws_eqBlockS (k : Nat) : FnOK Try.prog 27 (fe_laws_eqBlockS k) := by
  refine closed_ok (tab := [(76, fe_laws_eqBlock)]) (l := []) ti_ok ti_ht mix (List.forall_mem_cons.2 ⟨ok_laws_eqBlock, (List.forall_mem_nil _)⟩) (List.forall_mem_nil _) ⟨⟨Try.f27, (codeOf Try.f27), [.tmp 4], (laws_eqBlockS_O k), by kernel_rfl, by kernel_rfl, by kernel_rfl, by kernel_rfl, rfl, by decide, ⟨by kernel_rfl, ?_, ?_⟩, ?_⟩⟩
  · refine loops_of (n := 1) (by kernel_rfl) fun i hi => ?_
    match i, hi with
    | 0, _ => exact loop_of (by kernel_rfl) (laws_eqBlockS_l0_ok k)
    | n + 1, hi => omega
  · exact no_cuts (by kernel_rfl)
  · rintro ⟨a0, b1⟩
    kernel_rfl
/- 4 loop.example/g01005/laws.FnExactValidBlocks -/
def laws_FnExactValidBlocks (k : Nat) (aList0 : List (List UInt8 × List UInt8 × List UInt8)) : Option Bool := (laws_szBlockS k aList0 1048576).bind fun r_1 => (if (decide (r_1 < 0)) = true then some true else (laws_toBlockS k aList0).bind fun r_2 => (spec_ValidBlocks k r_2).bind fun r_3 => (laws_toBlockS k aList0).bind fun r_4 => (impl_ValidBlocks k r_4).bind fun r_5 => (if (!(r_5 == r_3)) = true then some false else (laws_toBlockS k aList0).bind fun r_6 => (laws_eqBlockS k r_4 r_6).bind fun r_7 => (if (!r_7) = true then some false else some true)))
def fe_laws_FnExactValidBlocks (k : Nat) : FE := ⟨(.sl 66 (.st (.pr .str (.pr .str .str)))), 1, .bool, fun x => laws_FnExactValidBlocks k x⟩
theorem ok_laws_FnExactValidBlocks (k : Nat) : FnOK Try.prog 4 (fe_laws_FnExactValidBlocks k) := by
  refine closed_ok (tab := [(23, fe_laws_szBlockS k), (25, fe_laws_toBlockS k), (24, fe_spec_ValidBlocks k), (26, fe_impl_ValidBlocks k), (27, fe_laws_eqBlockS k)]) (l := []) ti_ok ti_ht mix (List.forall_mem_cons.2 ⟨ok_laws_szBlockS k, (List.forall_mem_cons.2 ⟨ok_laws_toBlockS k, (List.forall_mem_cons.2 ⟨ok_spec_ValidBlocks k, (List.forall_mem_cons.2 ⟨ok_impl_ValidBlocks k, (List.forall_mem_cons.2 ⟨ok_laws_eqBlockS k, (List.forall_mem_nil _)⟩)⟩)⟩)⟩)⟩) (List.forall_mem_nil _) ⟨⟨Try.f4, (codeOf Try.f4), [.tmp 2], (LOn Bool), by kernel_rfl, by kernel_rfl, by kernel_rfl, by kernel_rfl, rfl, by decide, ⟨by kernel_rfl, ?_, ?_⟩, ?_⟩⟩
  · exact no_loops (by kernel_rfl)
  · exact no_cuts (by kernel_rfl)
  · rintro aList0
    kernel_rfl
/- 84 loop.example/g01005/spec.l29Find -/
def spec_l29Find_l0 (k : Nat) : Nat → (List (List UInt8 × List UInt8 × List UInt8)) → (List UInt8) → (List UInt8) → Int → (Option Int) → Option Int
  | 0, _, _, _, _, _ => none
  | n + 1, list0, kind1, name2, i7, e_0 => (if (decide (i7 < (List.length list0 : Int))) = true then (if 0 ≤ i7 then (list0[i7.toNat]?).bind fun y_1 => (if (decide (y_1.1 = kind1)) = true then (if 0 ≤ i7 then (list0[i7.toNat]?).bind fun y_2 => (if (decide (y_2.2.1 = name2)) = true then some i7 else spec_l29Find_l0 k n list0 kind1 name2 (w_i64 (i7 + 1)) e_0) else none) else spec_l29Find_l0 k n list0 kind1 name2 (w_i64 (i7 + 1)) e_0) else none) else e_0)
def spec_l29Find (k : Nat) (list0 : List (List UInt8 × List UInt8 × List UInt8)) (kind1 : List UInt8) (name2 : List UInt8) : Option Int := spec_l29Find_l0 k k list0 kind1 name2 0 (some (-1))
def spec_l29Find_l0_h : Head := ⟨[(0, (.val (.sl 69 (.st (.pr .str (.pr .str .str)))))), (1, (.val .str)), (2, (.val .str)), (7, (.val (.int .i64)))], [], []⟩
def spec_l29Find_l0_x0 : Head := ⟨[], [], []⟩
def spec_l29Find_l0_F (k n : Nat) (x : spec_l29Find_l0_h.T) (kx : Nat → St → Option Int) : Option Int := spec_l29Find_l0 k n x.1.1 x.1.2.1 x.1.2.2.1 x.1.2.2.2.1 (kx 0 (spec_l29Find_l0_x0.fill ((), (), ())))
def spec_l29Find_O (k : Nat) : Oracles Int := ⟨fun n => bif Nat.beq n 2 then some (fun σ kx => spec_l29Find_l0_h.get σ fun x => spec_l29Find_l0_F k k x kx) else none, fun _ => none⟩
def fe_spec_l29Find (k : Nat) : FE := ⟨(.pr (.sl 69 (.st (.pr .str (.pr .str .str)))) (.pr .str .str)), 1, (.int .i64), fun x => spec_l29Find k x.1 x.2.1 x.2.2⟩
theorem spec_l29Find_l0_ok (k : Nat) : LoopOK (mkEnv ti [] (lk []) pins0 pinB0) (spec_l29Find_O k) (rdC (mkEnv ti [] (lk []) pins0 pinB0) [.tmp 6] (.int .i64)) ((loopsOf (codeOf Try.f84)).getD 0 .skip) (fun σ kx => spec_l29Find_l0_h.get σ fun x => spec_l29Find_l0_F k k x kx) := by
  refine ⟨spec_l29Find_l0_h, [(0, spec_l29Find_l0_x0)], fun n x kx => spec_l29Find_l0_F k n x kx, k, by kernel_rfl, by kernel_rfl, fun x kx => by kernel_rfl, ?_, fun σ kx => rfl⟩
  rintro n ⟨⟨list0, kind1, name2, i7, ⟨⟩⟩, ⟨⟩, ⟨⟩⟩ kx
  kernel_rfl
theorem ok_spec_l29Find (k : Nat) : FnOK Try.prog 84 (fe_spec_l29Find k) := by
  refine closed_ok (tab := []) (l := []) ti_ok ti_ht mix (List.forall_mem_nil _) (List.forall_mem_nil _) ⟨⟨Try.f84, (codeOf Try.f84), [.tmp 6], (spec_l29Find_O k), by kernel_rfl, by kernel_rfl, by kernel_rfl, by kernel_rfl, rfl, by decide, ⟨by kernel_rfl, ?_, ?_⟩, ?_⟩⟩
  · refine loops_of (n := 1) (by kernel_rfl) fun i hi => ?_
    match i, hi with
    | 0, _ => exact loop_of (by kernel_rfl) (spec_l29Find_l0_ok k)
    | n + 1, hi => omega
  · exact no_cuts (by kernel_rfl)
  · rintro ⟨list0, kind1, name2⟩
    kernel_rfl
/- 35 loop.example/g01005/spec.BlockNamed -/
def spec_BlockNamed (k : Nat) (list0 : List (List UInt8 × List UInt8 × List UInt8)) (kind1 : List UInt8) (name2 : List UInt8) : Option (List UInt8 × Int) := (spec_l29Ok k list0).bind fun r_1 => (if (!r_1) = true then some ([], 1) else (spec_l29Find k list0 kind1 name2).bind fun r_2 => (if (decide (r_2 < 0)) = true then some ([], 3) else (if 0 ≤ r_2 then (list0[r_2.toNat]?).bind fun y_3 => some (y_3.2.2, 0) else none)))
def fe_spec_BlockNamed (k : Nat) : FE := ⟨(.pr (.sl 69 (.st (.pr .str (.pr .str .str)))) (.pr .str .str)), 2, (.pr .str (.int .i64)), fun x => spec_BlockNamed k x.1 x.2.1 x.2.2⟩
theorem ok_spec_BlockNamed (k : Nat) : FnOK Try.prog 35 (fe_spec_BlockNamed k) := by
  refine closed_ok (tab := [(73, fe_spec_l29Ok k), (84, fe_spec_l29Find k)]) (l := []) ti_ok ti_ht mix (List.forall_mem_cons.2 ⟨ok_spec_l29Ok k, (List.forall_mem_cons.2 ⟨ok_spec_l29Find k, (List.forall_mem_nil _)⟩)⟩) (List.forall_mem_nil _) ⟨⟨Try.f35, (codeOf Try.f35), [.tmp 6, .tmp 7], (LOn (List UInt8 × Int)), by kernel_rfl, by kernel_rfl, by kernel_rfl, by kernel_rfl, rfl, by decide, ⟨by kernel_rfl, ?_, ?_⟩, ?_⟩⟩
  · exact no_loops (by kernel_rfl)
  · exact no_cuts (by kernel_rfl)
  · rintro ⟨list0, kind1, name2⟩
    kernel_rfl
/- 122 slices.BinarySearchFunc[[]loop.example/g01005/impl.Block,loop.example/g01005/impl.Block,loop.example/g01005/impl.Block] -/
def slices_BinarySearchFunc_impl_Block__impl_compareBlocks_l0 (k : Nat) : Nat → (List (List UInt8 × List UInt8 × List UInt8)) → Unit → Int → Int → Int → (List UInt8 × List UInt8 × List UInt8) → ((List (List UInt8 × List UInt8 × List UInt8)) → Unit → Int → Int → (List UInt8 × List UInt8 × List UInt8) → Option (Int × Bool)) → Option (Int × Bool)
  | 0, _, _, _, _, _, _, _ => none
  | n + 1, x0, cmp2, n8, i9, j10, v_4, e_0 => (if (decide (i9 < j10)) = true then (if 0 ≤ (w_i64 ((Int.fdiv (w_u64 ((w_i64 (i9 + j10)))) (2 ^ 1)))) then (x0[(w_i64 ((Int.fdiv (w_u64 ((w_i64 (i9 + j10)))) (2 ^ 1)))).toNat]?).bind fun y_1 => (impl_compareBlocks k y_1 v_4).bind fun r_2 => (if (decide (r_2 < 0)) = true then slices_BinarySearchFunc_impl_Block__impl_compareBlocks_l0 k n x0 cmp2 n8 (w_i64 ((w_i64 ((Int.fdiv (w_u64 ((w_i64 (i9 + j10)))) (2 ^ 1)))) + 1)) j10 v_4 e_0 else slices_BinarySearchFunc_impl_Block__impl_compareBlocks_l0 k n x0 cmp2 n8 i9 (w_i64 ((Int.fdiv (w_u64 ((w_i64 (i9 + j10)))) (2 ^ 1)))) v_4 e_0) else none) else e_0 x0 cmp2 n8 i9 v_4)
def slices_BinarySearchFunc_impl_Block__impl_compareBlocks (k : Nat) (x0 : List (List UInt8 × List UInt8 × List UInt8)) (target1 : List UInt8 × List UInt8 × List UInt8) (cmp2 : Unit) : Option (Int × Bool) := slices_BinarySearchFunc_impl_Block__impl_compareBlocks_l0 k k x0 cmp2 (List.length x0 : Int) 0 (List.length x0 : Int) target1 (fun x_3 cmp_4 n_5 i_6 v_7 => (if (decide (i_6 < n_5)) = true then (if 0 ≤ i_6 then (x_3[i_6.toNat]?).bind fun y_8 => (impl_compareBlocks k y_8 v_7).bind fun r_9 => some (i_6, (decide (r_9 = 0))) else none) else some (i_6, false)))
def slices_BinarySearchFunc_impl_Block__impl_compareBlocks_l0_h : Head := ⟨[(0, (.val (.sl 69 (.st (.pr .str (.pr .str .str)))))), (2, (.val (.fn 75 .un))), (4, (.bp 4 [] 0)), (8, (.val (.int .i64))), (9, (.val (.int .i64))), (10, (.val (.int .i64)))], [], [(4, 69, (.val (.st (.pr .str (.pr .str .str)))))]⟩
def slices_BinarySearchFunc_impl_Block__impl_compareBlocks_l0_x0 : Head := ⟨[(0, (.val (.sl 69 (.st (.pr .str (.pr .str .str)))))), (2, (.val (.fn 75 .un))), (4, (.bp 4 [] 0)), (8, (.val (.int .i64))), (9, (.val (.int .i64)))], [], [(4, 69, (.val (.st (.pr .str (.pr .str .str)))))]⟩
def slices_BinarySearchFunc_impl_Block__impl_compareBlocks_l0_F (k n : Nat) (x : slices_BinarySearchFunc_impl_Block__impl_compareBlocks_l0_h.T) (kx : Nat → St → Option (Int × Bool)) : Option (Int × Bool) := slices_BinarySearchFunc_impl_Block__impl_compareBlocks_l0 k n x.1.1 x.1.2.1 x.1.2.2.2.1 x.1.2.2.2.2.1 x.1.2.2.2.2.2.1 x.2.2.1 (fun (x0 : List (List UInt8 × List UInt8 × List UInt8)) (cmp2 : Unit) (n8 : Int) (i9 : Int) (v_4 : List UInt8 × List UInt8 × List UInt8) => kx 0 (slices_BinarySearchFunc_impl_Block__impl_compareBlocks_l0_x0.fill ((x0, cmp2, (), n8, i9, ()), (), (v_4, ()))))
def slices_BinarySearchFunc_impl_Block__impl_compareBlocks_O (k : Nat) : Oracles (Int × Bool) := ⟨fun n => bif Nat.beq n 3 then some (fun σ kx => slices_BinarySearchFunc_impl_Block__impl_compareBlocks_l0_h.get σ fun x => slices_BinarySearchFunc_impl_Block__impl_compareBlocks_l0_F k k x kx) else none, fun _ => none⟩
def fe_slices_BinarySearchFunc_impl_Block__impl_compareBlocks (k : Nat) : FE := ⟨(.pr (.sl 69 (.st (.pr .str (.pr .str .str)))) (.pr (.st (.pr .str (.pr .str .str))) (.fn 75 .un))), 2, (.pr (.int .i64) .bool), fun x => slices_BinarySearchFunc_impl_Block__impl_compareBlocks k x.1 x.2.1 x.2.2⟩
theorem slices_BinarySearchFunc_impl_Block__impl_compareBlocks_l0_ok (k : Nat) : LoopOK (mkEnv ti [(75, fe_impl_compareBlocks k)] (lk []) pins0 pinB0) (slices_BinarySearchFunc_impl_Block__impl_compareBlocks_O k) (rdC (mkEnv ti [(75, fe_impl_compareBlocks k)] (lk []) pins0 pinB0) [.tmp 6, .tmp 7] (.pr (.int .i64) .bool)) ((loopsOf (codeOf Try.f122)).getD 0 .skip) (fun σ kx => slices_BinarySearchFunc_impl_Block__impl_compareBlocks_l0_h.get σ fun x => slices_BinarySearchFunc_impl_Block__impl_compareBlocks_l0_F k k x kx) := by
  refine ⟨slices_BinarySearchFunc_impl_Block__impl_compareBlocks_l0_h, [(0, slices_BinarySearchFunc_impl_Block__impl_compareBlocks_l0_x0)], fun n x kx => slices_BinarySearchFunc_impl_Block__impl_compareBlocks_l0_F k n x kx, k, by kernel_rfl, by kernel_rfl, fun x kx => by kernel_rfl, ?_, fun σ kx => rfl⟩
  rintro n ⟨⟨x0, cmp2, ⟨⟩, n8, i9, j10, ⟨⟩⟩, ⟨⟩, ⟨v_4, ⟨⟩⟩⟩ kx
  kernel_rfl
theorem ok_slices_BinarySearchFunc_impl_Block__impl_compareBlocks (k : Nat) : FnOK Try.prog 122 (fe_slices_BinarySearchFunc_impl_Block__impl_compareBlocks k) := by
  refine closed_ok (tab := [(75, fe_impl_compareBlocks k)]) (l := []) ti_ok ti_ht mix (List.forall_mem_cons.2 ⟨ok_impl_compareBlocks k, (List.forall_mem_nil _)⟩) (List.forall_mem_nil _) ⟨⟨Try.f122, (codeOf Try.f122), [.tmp 6, .tmp 7], (slices_BinarySearchFunc_impl_Block__impl_compareBlocks_O k), by kernel_rfl, by kernel_rfl, by kernel_rfl, by kernel_rfl, rfl, by decide, ⟨by kernel_rfl, ?_, ?_⟩, ?_⟩⟩
  · refine loops_of (n := 1) (by kernel_rfl) fun i hi => ?_
    match i, hi with
    | 0, _ => exact loop_of (by kernel_rfl) (slices_BinarySearchFunc_impl_Block__impl_compareBlocks_l0_ok k)
    | n + 1, hi => omega
  · exact no_cuts (by kernel_rfl)
  · rintro ⟨x0, target1, cmp2⟩
    kernel_rfl
end
end Go.Proofs.Ytkopnopjbaejjaa.Ev
