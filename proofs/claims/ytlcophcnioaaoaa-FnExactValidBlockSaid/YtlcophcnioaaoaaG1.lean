/- Functions of the program, as plain ones. No conditions. -/
import Derived.Test.YtlcophcnioaaoaaG0
import Derived.KernelRfl
set_option linter.unusedVariables false
set_option maxRecDepth 100000
namespace Go.Proofs.Ytlcophcnioaaoaa.Ev
open Go.RowKit
/- 47 loop.example/g01005/spec.l00In -/
def spec_l00In (n0 : Int) (low1 : Int) (high2 : Int) : Option Bool := (if (decide (low1 ≤ n0)) = true then some (decide (n0 ≤ high2)) else some false)
def fe_spec_l00In : FE := ⟨(.pr (.int .i64) (.pr (.int .i64) (.int .i64))), 1, .bool, fun x => spec_l00In x.1 x.2.1 x.2.2⟩
theorem ok_spec_l00In : FnOK Try.prog 47 (fe_spec_l00In) := by
  refine closed_ok (tab := []) (l := []) ti_ok ti_ht mix (List.forall_mem_nil _) (List.forall_mem_nil _) ⟨⟨Try.f47, (codeOf Try.f47), [.tmp 6], (LOn Bool), by kernel_rfl, by kernel_rfl, by kernel_rfl, by kernel_rfl, rfl, by decide, ⟨by kernel_rfl, ?_, ?_⟩, ?_⟩⟩
  · exact no_loops (by kernel_rfl)
  · exact no_cuts (by kernel_rfl)
  · rintro ⟨n0, low1, high2⟩
    kernel_rfl
/- 36 loop.example/g01005/spec.l31Kind -/
def spec_l31Kind (kind0 : Int) : Option Bool := (spec_l00In kind0 1 5).bind fun r_1 => some r_1
def fe_spec_l31Kind : FE := ⟨(.int .i64), 1, .bool, fun x => spec_l31Kind x⟩
theorem ok_spec_l31Kind : FnOK Try.prog 36 (fe_spec_l31Kind) := by
  refine closed_ok (tab := [(47, fe_spec_l00In)]) (l := []) ti_ok ti_ht mix (List.forall_mem_cons.2 ⟨ok_spec_l00In, (List.forall_mem_nil _)⟩) (List.forall_mem_nil _) ⟨⟨Try.f36, (codeOf Try.f36), [.tmp 2], (LOn Bool), by kernel_rfl, by kernel_rfl, by kernel_rfl, by kernel_rfl, rfl, by decide, ⟨by kernel_rfl, ?_, ?_⟩, ?_⟩⟩
  · exact no_loops (by kernel_rfl)
  · exact no_cuts (by kernel_rfl)
  · rintro kind0
    kernel_rfl
/- 37 loop.example/g01005/spec.l31Names -/
def spec_l31Names : Option (List (List UInt8)) := some [[], [115, 113, 117, 97, 114, 101], [99, 108, 97, 115, 115], [114, 101, 97, 100, 105, 110, 103, 115], [102, 108, 111, 119], [112, 104, 97, 115, 101, 115]]
def fe_spec_l31Names : FE := ⟨.un, 1, (.sl 9 .str), fun x => spec_l31Names⟩
theorem ok_spec_l31Names : FnOK Try.prog 37 (fe_spec_l31Names) := by
  refine closed_ok (tab := []) (l := []) ti_ok ti_ht mix (List.forall_mem_nil _) (List.forall_mem_nil _) ⟨⟨Try.f37, (codeOf Try.f37), [.tmp 0], (LOn (List (List UInt8))), by kernel_rfl, by kernel_rfl, by kernel_rfl, by kernel_rfl, rfl, by decide, ⟨by kernel_rfl, ?_, ?_⟩, ?_⟩⟩
  · exact no_loops (by kernel_rfl)
  · exact no_cuts (by kernel_rfl)
  · rintro ⟨⟩
    kernel_rfl
/- 10 loop.example/g01005/spec.ProblemName -/
def spec_ProblemName (kind0 : Int) : Option (List UInt8) := (spec_l31Kind kind0).bind fun r_1 => (if (!r_1) = true then some [] else (spec_l31Names).bind fun r_2 => (if 0 ≤ kind0 ∧ kind0.toNat < List.length r_2 then (r_2[kind0.toNat]?).bind fun y_3 => some y_3 else none))
def fe_spec_ProblemName : FE := ⟨(.int .i64), 1, .str, fun x => spec_ProblemName x⟩
theorem ok_spec_ProblemName : FnOK Try.prog 10 (fe_spec_ProblemName) := by
  refine closed_ok (tab := [(36, fe_spec_l31Kind), (37, fe_spec_l31Names)]) (l := []) ti_ok ti_ht mix (List.forall_mem_cons.2 ⟨ok_spec_l31Kind, (List.forall_mem_cons.2 ⟨ok_spec_l31Names, (List.forall_mem_nil _)⟩)⟩) (List.forall_mem_nil _) ⟨⟨Try.f10, (codeOf Try.f10), [.tmp 2], (LOn (List UInt8)), by kernel_rfl, by kernel_rfl, by kernel_rfl, by kernel_rfl, rfl, by decide, ⟨by kernel_rfl, ?_, ?_⟩, ?_⟩⟩
  · exact no_loops (by kernel_rfl)
  · exact no_cuts (by kernel_rfl)
  · rintro kind0
    kernel_rfl
/- 48 loop.example/g01005/impl.within -/
def impl_within (n0 : Int) (low1 : Int) (high2 : Int) : Option Bool := (if (decide (low1 ≤ n0)) = true then some (decide (n0 ≤ high2)) else some false)
def fe_impl_within : FE := ⟨(.pr (.int .i64) (.pr (.int .i64) (.int .i64))), 1, .bool, fun x => impl_within x.1 x.2.1 x.2.2⟩
theorem ok_impl_within : FnOK Try.prog 48 (fe_impl_within) := by
  refine closed_ok (tab := []) (l := []) ti_ok ti_ht mix (List.forall_mem_nil _) (List.forall_mem_nil _) ⟨⟨Try.f48, (codeOf Try.f48), [.tmp 6], (LOn Bool), by kernel_rfl, by kernel_rfl, by kernel_rfl, by kernel_rfl, rfl, by decide, ⟨by kernel_rfl, ?_, ?_⟩, ?_⟩⟩
  · exact no_loops (by kernel_rfl)
  · exact no_cuts (by kernel_rfl)
  · rintro ⟨n0, low1, high2⟩
    kernel_rfl
/- 38 loop.example/g01005/impl.isProblem -/
def impl_isProblem (kind0 : Int) : Option Bool := (impl_within kind0 1 5).bind fun r_1 => some r_1
def fe_impl_isProblem : FE := ⟨(.int .i64), 1, .bool, fun x => impl_isProblem x⟩
theorem ok_impl_isProblem : FnOK Try.prog 38 (fe_impl_isProblem) := by
  refine closed_ok (tab := [(48, fe_impl_within)]) (l := []) ti_ok ti_ht mix (List.forall_mem_cons.2 ⟨ok_impl_within, (List.forall_mem_nil _)⟩) (List.forall_mem_nil _) ⟨⟨Try.f38, (codeOf Try.f38), [.tmp 2], (LOn Bool), by kernel_rfl, by kernel_rfl, by kernel_rfl, by kernel_rfl, rfl, by decide, ⟨by kernel_rfl, ?_, ?_⟩, ?_⟩⟩
  · exact no_loops (by kernel_rfl)
  · exact no_cuts (by kernel_rfl)
  · rintro kind0
    kernel_rfl
/- 11 loop.example/g01005/impl.ProblemName -/
def impl_ProblemName (kind0 : Int) : Option (List UInt8) := (impl_isProblem kind0).bind fun r_1 => (if (!r_1) = true then some [] else (if 0 ≤ (w_i64 (kind0 - 1)) ∧ (w_i64 (kind0 - 1)).toNat < List.length [[115, 113, 117, 97, 114, 101], [99, 108, 97, 115, 115], [114, 101, 97, 100, 105, 110, 103, 115], [102, 108, 111, 119], [112, 104, 97, 115, 101, 115]] then ([[115, 113, 117, 97, 114, 101], [99, 108, 97, 115, 115], [114, 101, 97, 100, 105, 110, 103, 115], [102, 108, 111, 119], [112, 104, 97, 115, 101, 115]][(w_i64 (kind0 - 1)).toNat]?).bind fun y_2 => some y_2 else none))
def fe_impl_ProblemName : FE := ⟨(.int .i64), 1, .str, fun x => impl_ProblemName x⟩
theorem ok_impl_ProblemName : FnOK Try.prog 11 (fe_impl_ProblemName) := by
  refine closed_ok (tab := [(38, fe_impl_isProblem)]) (l := []) ti_ok ti_ht mix (List.forall_mem_cons.2 ⟨ok_impl_isProblem, (List.forall_mem_nil _)⟩) (List.forall_mem_nil _) ⟨⟨Try.f11, (codeOf Try.f11), [.tmp 2], (LOn (List UInt8)), by kernel_rfl, by kernel_rfl, by kernel_rfl, by kernel_rfl, rfl, by decide, ⟨by kernel_rfl, ?_, ?_⟩, ?_⟩⟩
  · exact no_loops (by kernel_rfl)
  · exact no_cuts (by kernel_rfl)
  · rintro kind0
    kernel_rfl
/- 3 loop.example/g01005/laws.FnExactProblemName -/
def laws_FnExactProblemName (aKind0 : Int) : Option Bool := (spec_ProblemName aKind0).bind fun r_1 => (impl_ProblemName aKind0).bind fun r_2 => (if (!(decide (r_2 = r_1))) = true then some false else some true)
def fe_laws_FnExactProblemName : FE := ⟨(.int .i64), 1, .bool, fun x => laws_FnExactProblemName x⟩
theorem ok_laws_FnExactProblemName : FnOK Try.prog 3 (fe_laws_FnExactProblemName) := by
  refine closed_ok (tab := [(10, fe_spec_ProblemName), (11, fe_impl_ProblemName)]) (l := []) ti_ok ti_ht mix (List.forall_mem_cons.2 ⟨ok_spec_ProblemName, (List.forall_mem_cons.2 ⟨ok_impl_ProblemName, (List.forall_mem_nil _)⟩)⟩) (List.forall_mem_nil _) ⟨⟨Try.f3, (codeOf Try.f3), [.tmp 2], (LOn Bool), by kernel_rfl, by kernel_rfl, by kernel_rfl, by kernel_rfl, rfl, by decide, ⟨by kernel_rfl, ?_, ?_⟩, ?_⟩⟩
  · exact no_loops (by kernel_rfl)
  · exact no_cuts (by kernel_rfl)
  · rintro aKind0
    kernel_rfl
/- 12 loop.example/g01005/laws.szProblem -/
def laws_szProblem (a0 : Int × List UInt8 × List UInt8) (left1 : Int) : Option Int := (if (decide ((w_i64 (left1 - (List.length a0.2.1 : Int))) < 0)) = true then some (-1) else (if (decide ((w_i64 ((w_i64 (left1 - (List.length a0.2.1 : Int))) - (List.length a0.2.2 : Int))) < 0)) = true then some (-1) else some (w_i64 ((w_i64 (left1 - (List.length a0.2.1 : Int))) - (List.length a0.2.2 : Int)))))
def fe_laws_szProblem : FE := ⟨(.pr (.st (.pr (.int .i64) (.pr .str .str))) (.int .i64)), 1, (.int .i64), fun x => laws_szProblem x.1 x.2⟩
theorem ok_laws_szProblem : FnOK Try.prog 12 (fe_laws_szProblem) := by
  refine closed_ok (tab := []) (l := []) ti_ok ti_ht mix (List.forall_mem_nil _) (List.forall_mem_nil _) ⟨⟨Try.f12, (codeOf Try.f12), [.tmp 4], (LOn Int), by kernel_rfl, by kernel_rfl, by kernel_rfl, by kernel_rfl, rfl, by decide, ⟨by kernel_rfl, ?_, ?_⟩, ?_⟩⟩
  · exact no_loops (by kernel_rfl)
  · exact no_cuts (by kernel_rfl)
  · rintro ⟨a0, left1⟩
    kernel_rfl
/- 14 loop.example/g01005/laws.toProblem -/
def laws_toProblem (a0 : Int × List UInt8 × List UInt8) : Option (Int × List UInt8 × List UInt8) := some (a0.1, (a0.2.1, a0.2.2))
def fe_laws_toProblem : FE := ⟨(.st (.pr (.int .i64) (.pr .str .str))), 1, (.st (.pr (.int .i64) (.pr .str .str))), fun x => laws_toProblem x⟩
theorem ok_laws_toProblem : FnOK Try.prog 14 (fe_laws_toProblem) := by
  refine closed_ok (tab := []) (l := []) ti_ok ti_ht mix (List.forall_mem_nil _) (List.forall_mem_nil _) ⟨⟨Try.f14, (codeOf Try.f14), [.cell 2 28], (LOn (Int × List UInt8 × List UInt8)), by kernel_rfl, by kernel_rfl, by kernel_rfl, by kernel_rfl, rfl, by decide, ⟨by kernel_rfl, ?_, ?_⟩, ?_⟩⟩
  · exact no_loops (by kernel_rfl)
  · exact no_cuts (by kernel_rfl)
  · rintro a0
    kernel_rfl
/- 13 loop.example/g01005/spec.ProblemText -/
def spec_ProblemText (x0 : Int × List UInt8 × List UInt8) : Option (List UInt8) := (spec_l31Kind x0.1).bind fun r_1 => (if (!r_1) = true then some [] else (spec_l31Names).bind fun r_2 => (if 0 ≤ x0.1 ∧ x0.1.toNat < List.length r_2 then (r_2[x0.1.toNat]?).bind fun y_3 => (if y_3.length + [32].length ≤ 9223372036854775807 then (if (y_3 ++ [32]).length + x0.2.1.length ≤ 9223372036854775807 then (if ((y_3 ++ [32]) ++ x0.2.1).length + [32].length ≤ 9223372036854775807 then (if (((y_3 ++ [32]) ++ x0.2.1) ++ [32]).length + x0.2.2.length ≤ 9223372036854775807 then some ((((y_3 ++ [32]) ++ x0.2.1) ++ [32]) ++ x0.2.2) else none) else none) else none) else none) else none))
def fe_spec_ProblemText : FE := ⟨(.st (.pr (.int .i64) (.pr .str .str))), 1, .str, fun x => spec_ProblemText x⟩
theorem ok_spec_ProblemText : FnOK Try.prog 13 (fe_spec_ProblemText) := by
  refine closed_ok (tab := [(36, fe_spec_l31Kind), (37, fe_spec_l31Names)]) (l := []) ti_ok ti_ht mix (List.forall_mem_cons.2 ⟨ok_spec_l31Kind, (List.forall_mem_cons.2 ⟨ok_spec_l31Names, (List.forall_mem_nil _)⟩)⟩) (List.forall_mem_nil _) ⟨⟨Try.f13, (codeOf Try.f13), [.tmp 2], (LOn (List UInt8)), by kernel_rfl, by kernel_rfl, by kernel_rfl, by kernel_rfl, rfl, by decide, ⟨by kernel_rfl, ?_, ?_⟩, ?_⟩⟩
  · exact no_loops (by kernel_rfl)
  · exact no_cuts (by kernel_rfl)
  · rintro x0
    kernel_rfl
/- 15 loop.example/g01005/impl.ProblemText -/
def impl_ProblemText (x0 : Int × List UInt8 × List UInt8) : Option (List UInt8) := (impl_isProblem x0.1).bind fun r_1 => (if (!r_1) = true then some [] else (impl_ProblemName x0.1).bind fun r_2 => (if r_2.length + [32].length ≤ 9223372036854775807 then (if (r_2 ++ [32]).length + x0.2.1.length ≤ 9223372036854775807 then (if ((r_2 ++ [32]) ++ x0.2.1).length + [32].length ≤ 9223372036854775807 then (if (((r_2 ++ [32]) ++ x0.2.1) ++ [32]).length + x0.2.2.length ≤ 9223372036854775807 then some ((((r_2 ++ [32]) ++ x0.2.1) ++ [32]) ++ x0.2.2) else none) else none) else none) else none))
def fe_impl_ProblemText : FE := ⟨(.st (.pr (.int .i64) (.pr .str .str))), 1, .str, fun x => impl_ProblemText x⟩
theorem ok_impl_ProblemText : FnOK Try.prog 15 (fe_impl_ProblemText) := by
  refine closed_ok (tab := [(38, fe_impl_isProblem), (11, fe_impl_ProblemName)]) (l := []) ti_ok ti_ht mix (List.forall_mem_cons.2 ⟨ok_impl_isProblem, (List.forall_mem_cons.2 ⟨ok_impl_ProblemName, (List.forall_mem_nil _)⟩)⟩) (List.forall_mem_nil _) ⟨⟨Try.f15, (codeOf Try.f15), [.tmp 2], (LOn (List UInt8)), by kernel_rfl, by kernel_rfl, by kernel_rfl, by kernel_rfl, rfl, by decide, ⟨by kernel_rfl, ?_, ?_⟩, ?_⟩⟩
  · exact no_loops (by kernel_rfl)
  · exact no_cuts (by kernel_rfl)
  · rintro x0
    kernel_rfl
/- 4 loop.example/g01005/laws.FnExactProblemText -/
def laws_FnExactProblemText (aX0 : Int × List UInt8 × List UInt8) : Option Bool := (laws_szProblem aX0 1048576).bind fun r_1 => (if (decide (r_1 < 0)) = true then some true else (laws_toProblem aX0).bind fun r_2 => (spec_ProblemText r_2).bind fun r_3 => (laws_toProblem aX0).bind fun r_4 => (impl_ProblemText r_4).bind fun r_5 => (if (!(decide (r_5 = r_3))) = true then some false else some true))
def fe_laws_FnExactProblemText : FE := ⟨(.st (.pr (.int .i64) (.pr .str .str))), 1, .bool, fun x => laws_FnExactProblemText x⟩
theorem ok_laws_FnExactProblemText : FnOK Try.prog 4 (fe_laws_FnExactProblemText) := by
  refine closed_ok (tab := [(12, fe_laws_szProblem), (14, fe_laws_toProblem), (13, fe_spec_ProblemText), (15, fe_impl_ProblemText)]) (l := []) ti_ok ti_ht mix (List.forall_mem_cons.2 ⟨ok_laws_szProblem, (List.forall_mem_cons.2 ⟨ok_laws_toProblem, (List.forall_mem_cons.2 ⟨ok_spec_ProblemText, (List.forall_mem_cons.2 ⟨ok_impl_ProblemText, (List.forall_mem_nil _)⟩)⟩)⟩)⟩) (List.forall_mem_nil _) ⟨⟨Try.f4, (codeOf Try.f4), [.tmp 2], (LOn Bool), by kernel_rfl, by kernel_rfl, by kernel_rfl, by kernel_rfl, rfl, by decide, ⟨by kernel_rfl, ?_, ?_⟩, ?_⟩⟩
  · exact no_loops (by kernel_rfl)
  · exact no_cuts (by kernel_rfl)
  · rintro aX0
    kernel_rfl
/- 16 loop.example/g01005/spec.CommandNames -/
def spec_CommandNames : Option (List (List UInt8)) := some [[97, 103, 114, 101, 101], [98, 97, 114, 115], [98, 101, 116, 116, 105], [99, 111, 108, 108, 97, 112, 115, 101], [99, 111, 109, 112, 108, 101, 120], [100, 105, 109, 115], [101, 120, 116, 101, 110, 100], [102, 105, 108, 116, 114, 97, 116, 105, 111, 110], [103, 108, 111, 98, 97, 108], [103, 114, 97, 112, 104], [104, 101, 108, 112], [105, 116, 101, 109, 115], [109, 97, 107, 101], [109, 97, 116, 114, 105, 120], [111, 112, 105, 110, 105, 111, 110, 115], [114, 97, 110, 107], [114, 101, 97, 100, 105, 110, 103, 115], [114, 101, 112, 97, 105, 114], [115, 101, 99, 116, 105, 111, 110, 115], [115, 104, 101, 97, 102], [115, 104, 111, 119], [115, 111, 108, 118, 101], [115, 116, 101, 112], [116, 97, 98, 108, 101], [116, 114, 101, 101, 115]]
def fe_spec_CommandNames : FE := ⟨.un, 1, (.sl 9 .str), fun x => spec_CommandNames⟩
theorem ok_spec_CommandNames : FnOK Try.prog 16 (fe_spec_CommandNames) := by
  refine closed_ok (tab := []) (l := []) ti_ok ti_ht mix (List.forall_mem_nil _) (List.forall_mem_nil _) ⟨⟨Try.f16, (codeOf Try.f16), [.tmp 0], (LOn (List (List UInt8))), by kernel_rfl, by kernel_rfl, by kernel_rfl, by kernel_rfl, rfl, by decide, ⟨by kernel_rfl, ?_, ?_⟩, ?_⟩⟩
  · exact no_loops (by kernel_rfl)
  · exact no_cuts (by kernel_rfl)
  · rintro ⟨⟩
    kernel_rfl
/- 17 loop.example/g01005/impl.CommandNames -/
def impl_CommandNames : Option (List (List UInt8)) := some [[97, 103, 114, 101, 101], [98, 97, 114, 115], [98, 101, 116, 116, 105], [99, 111, 108, 108, 97, 112, 115, 101], [99, 111, 109, 112, 108, 101, 120], [100, 105, 109, 115], [101, 120, 116, 101, 110, 100], [102, 105, 108, 116, 114, 97, 116, 105, 111, 110], [103, 108, 111, 98, 97, 108], [103, 114, 97, 112, 104], [104, 101, 108, 112], [105, 116, 101, 109, 115], [109, 97, 107, 101], [109, 97, 116, 114, 105, 120], [111, 112, 105, 110, 105, 111, 110, 115], [114, 97, 110, 107], [114, 101, 97, 100, 105, 110, 103, 115], [114, 101, 112, 97, 105, 114], [115, 101, 99, 116, 105, 111, 110, 115], [115, 104, 101, 97, 102], [115, 104, 111, 119], [115, 111, 108, 118, 101], [115, 116, 101, 112], [116, 97, 98, 108, 101], [116, 114, 101, 101, 115]]
def fe_impl_CommandNames : FE := ⟨.un, 1, (.sl 9 .str), fun x => impl_CommandNames⟩
theorem ok_impl_CommandNames : FnOK Try.prog 17 (fe_impl_CommandNames) := by
  refine closed_ok (tab := []) (l := []) ti_ok ti_ht mix (List.forall_mem_nil _) (List.forall_mem_nil _) ⟨⟨Try.f17, (codeOf Try.f17), [.tmp 0], (LOn (List (List UInt8))), by kernel_rfl, by kernel_rfl, by kernel_rfl, by kernel_rfl, rfl, by decide, ⟨by kernel_rfl, ?_, ?_⟩, ?_⟩⟩
  · exact no_loops (by kernel_rfl)
  · exact no_cuts (by kernel_rfl)
  · rintro ⟨⟩
    kernel_rfl
/- 18 loop.example/g01005/laws.eqStringS -/
def laws_eqStringS_l0 (k : Nat) : Nat → (List (List UInt8)) → (List (List UInt8)) → Int → (Option Bool) → Option Bool
  | 0, _, _, _, _ => none
  | n + 1, a0, b1, i5, e_0 => (if (decide (i5 < (List.length a0 : Int))) = true then (if 0 ≤ i5 then (a0[i5.toNat]?).bind fun y_1 => (if 0 ≤ i5 then (b1[i5.toNat]?).bind fun y_2 => (if (!(decide (y_1 = y_2))) = true then some false else laws_eqStringS_l0 k n a0 b1 (w_i64 (i5 + 1)) e_0) else none) else none) else e_0)
def laws_eqStringS (k : Nat) (a0 : List (List UInt8)) (b1 : List (List UInt8)) : Option Bool := (if (!(decide ((List.length a0 : Int) = (List.length b1 : Int)))) = true then some false else laws_eqStringS_l0 k k a0 b1 0 (some true))
def laws_eqStringS_l0_h : Head := ⟨[(0, (.val (.sl 9 .str))), (1, (.val (.sl 9 .str))), (5, (.val (.int .i64)))], [], []⟩
def laws_eqStringS_l0_x0 : Head := ⟨[], [], []⟩
def laws_eqStringS_l0_F (k n : Nat) (x : laws_eqStringS_l0_h.T) (kx : Nat → St → Option Bool) : Option Bool := laws_eqStringS_l0 k n x.1.1 x.1.2.1 x.1.2.2.1 (kx 0 (laws_eqStringS_l0_x0.fill ((), (), ())))
def laws_eqStringS_O (k : Nat) : Oracles Bool := ⟨fun n => bif Nat.beq n 4 then some (fun σ kx => laws_eqStringS_l0_h.get σ fun x => laws_eqStringS_l0_F k k x kx) else none, fun _ => none⟩
def fe_laws_eqStringS (k : Nat) : FE := ⟨(.pr (.sl 9 .str) (.sl 9 .str)), 1, .bool, fun x => laws_eqStringS k x.1 x.2⟩
theorem laws_eqStringS_l0_ok (k : Nat) : LoopOK (mkEnv ti [] (lk []) pins0 pinB0) (laws_eqStringS_O k) (rdC (mkEnv ti [] (lk []) pins0 pinB0) [.tmp 4] .bool) ((loopsOf (codeOf Try.f18)).getD 0 .skip) (fun σ kx => laws_eqStringS_l0_h.get σ fun x => laws_eqStringS_l0_F k k x kx) := by
  refine ⟨laws_eqStringS_l0_h, [(0, laws_eqStringS_l0_x0)], fun n x kx => laws_eqStringS_l0_F k n x kx, k, by kernel_rfl, by kernel_rfl, fun x kx => by kernel_rfl, ?_, fun σ kx => rfl⟩
  rintro n ⟨⟨a0, b1, i5, ⟨⟩⟩, ⟨⟩, ⟨⟩⟩ kx
  kernel_rfl
theorem ok_laws_eqStringS (k : Nat) : FnOK Try.prog 18 (fe_laws_eqStringS k) := by
  refine closed_ok (tab := []) (l := []) ti_ok ti_ht mix (List.forall_mem_nil _) (List.forall_mem_nil _) ⟨⟨Try.f18, (codeOf Try.f18), [.tmp 4], (laws_eqStringS_O k), by kernel_rfl, by kernel_rfl, by kernel_rfl, by kernel_rfl, rfl, by decide, ⟨by kernel_rfl, ?_, ?_⟩, ?_⟩⟩
  · refine loops_of (n := 1) (by kernel_rfl) fun i hi => ?_
    match i, hi with
    | 0, _ => exact loop_of (by kernel_rfl) (laws_eqStringS_l0_ok k)
    | n + 1, hi => omega
  · exact no_cuts (by kernel_rfl)
  · rintro ⟨a0, b1⟩
    kernel_rfl
/- 39 loop.example/g01005/laws.markText -/
def laws_markText_l0 (k : Nat) : Nat → Int → (List UInt8) → ((List UInt8) → Option (List UInt8)) → Option (List UInt8)
  | 0, _, _, _ => none
  | n + 1, k0, out3, e_0 => (if (decide (0 < k0)) = true then (if (to_S [(w_u8 ((w_i64 (48 + (Int.tmod k0 10)))))]).length + out3.length ≤ 9223372036854775807 then laws_markText_l0 k n (w_i64 (Int.tdiv k0 10)) ((to_S [(w_u8 ((w_i64 (48 + (Int.tmod k0 10)))))]) ++ out3) e_0 else none) else e_0 out3)
def laws_markText (k : Nat) (k0 : Int) : Option (List UInt8) := (if (decide (k0 ≤ 0)) = true then some [109, 48] else laws_markText_l0 k k k0 [] (fun out_1 => (if [109].length + out_1.length ≤ 9223372036854775807 then some ([109] ++ out_1) else none)))
def laws_markText_l0_h : Head := ⟨[(0, (.val (.int .i64))), (3, (.val .str))], [], []⟩
def laws_markText_l0_x0 : Head := ⟨[(3, (.val .str))], [], []⟩
def laws_markText_l0_F (k n : Nat) (x : laws_markText_l0_h.T) (kx : Nat → St → Option (List UInt8)) : Option (List UInt8) := laws_markText_l0 k n x.1.1 x.1.2.1 (fun (out3 : List UInt8) => kx 0 (laws_markText_l0_x0.fill ((out3, ()), (), ())))
def laws_markText_O (k : Nat) : Oracles (List UInt8) := ⟨fun n => bif Nat.beq n 4 then some (fun σ kx => laws_markText_l0_h.get σ fun x => laws_markText_l0_F k k x kx) else none, fun _ => none⟩
def fe_laws_markText (k : Nat) : FE := ⟨(.int .i64), 1, .str, fun x => laws_markText k x⟩
theorem laws_markText_l0_ok (k : Nat) : LoopOK (mkEnv ti [] (lk []) pins0 pinB0) (laws_markText_O k) (rdC (mkEnv ti [] (lk []) pins0 pinB0) [.tmp 2] .str) ((loopsOf (codeOf Try.f39)).getD 0 .skip) (fun σ kx => laws_markText_l0_h.get σ fun x => laws_markText_l0_F k k x kx) := by
  refine ⟨laws_markText_l0_h, [(0, laws_markText_l0_x0)], fun n x kx => laws_markText_l0_F k n x kx, k, by kernel_rfl, by kernel_rfl, fun x kx => by kernel_rfl, ?_, fun σ kx => rfl⟩
  rintro n ⟨⟨k0, out3, ⟨⟩⟩, ⟨⟩, ⟨⟩⟩ kx
  kernel_rfl
theorem ok_laws_markText (k : Nat) : FnOK Try.prog 39 (fe_laws_markText k) := by
  refine closed_ok (tab := []) (l := []) ti_ok ti_ht mix (List.forall_mem_nil _) (List.forall_mem_nil _) ⟨⟨Try.f39, (codeOf Try.f39), [.tmp 2], (laws_markText_O k), by kernel_rfl, by kernel_rfl, by kernel_rfl, by kernel_rfl, rfl, by decide, ⟨by kernel_rfl, ?_, ?_⟩, ?_⟩⟩
  · refine loops_of (n := 1) (by kernel_rfl) fun i hi => ?_
    match i, hi with
    | 0, _ => exact loop_of (by kernel_rfl) (laws_markText_l0_ok k)
    | n + 1, hi => omega
  · exact no_cuts (by kernel_rfl)
  · rintro k0
    kernel_rfl
/- 19 loop.example/g01005/laws.markStringS (open) -/
def laws_markStringS_o_l0 (k : Nat) : Nat → Int → Int → (List (List UInt8)) → (Int → (List (List UInt8)) → Option (((Int × Unit) × ((List (List UInt8)) × Unit) × Unit))) → Option (((Int × Unit) × ((List (List UInt8)) × Unit) × Unit))
  | 0, _, _, _, _ => none
  | n + 1, k1, i5, q_2, e_0 => (if (decide (i5 < (List.length q_2 : Int))) = true then (laws_markText k k1).bind fun r_3 => (if 0 ≤ i5 ∧ i5.toNat < List.length q_2 then (q_2[i5.toNat]?).bind fun y_4 => (q_2[i5.toNat]?).bind fun y_5 => laws_markStringS_o_l0 k n (w_i64 (k1 + 1)) (w_i64 (i5 + 1)) (q_2.set i5.toNat r_3) e_0 else none) else e_0 k1 q_2)
def laws_markStringS_o (k : Nat) (k1 : Int) (q_1 : List (List UInt8)) : Option (((Int × Unit) × ((List (List UInt8)) × Unit) × Unit)) := laws_markStringS_o_l0 k k k1 0 q_1 (fun k_6 q_7 => some ((k_6, ()), (q_7, ()), ()))
def laws_markStringS_o_l0_h : Head := ⟨[(0, (.ref 1000000000 [])), (1, (.val (.int .i64))), (5, (.val (.int .i64)))], [(1000000000, 9, .str, false)], []⟩
def laws_markStringS_o_l0_x0 : Head := ⟨[(1, (.val (.int .i64)))], [(1000000000, 9, .str, false)], []⟩
def laws_markStringS_o_l0_F (k n : Nat) (x : laws_markStringS_o_l0_h.T) (kx : Nat → St → Option (((Int × Unit) × ((List (List UInt8)) × Unit) × Unit))) : Option (((Int × Unit) × ((List (List UInt8)) × Unit) × Unit)) := laws_markStringS_o_l0 k n x.1.2.1 x.1.2.2.1 x.2.1.1 (fun (k1 : Int) (q_6 : List (List UInt8)) => kx 0 (laws_markStringS_o_l0_x0.fill ((k1, ()), (q_6, ()), ())))
def laws_markStringS_o_O (k : Nat) : Oracles (((Int × Unit) × ((List (List UInt8)) × Unit) × Unit)) := ⟨fun n => bif Nat.beq n 2 then some (fun σ kx => laws_markStringS_o_l0_h.get σ fun x => laws_markStringS_o_l0_F k k x kx) else none, fun _ => none⟩
def laws_markStringS_o_hi : Head := ⟨[(0, (.ref 1000000000 [])), (1, (.val (.int .i64)))], [(1000000000, 9, .str, false)], []⟩
def laws_markStringS_o_ho : Head := ⟨[(0, (.val (.int .i64)))], [(1000000000, 9, .str, false)], []⟩
def oc_laws_markStringS_o (k : Nat) : OC := ⟨laws_markStringS_o_hi, laws_markStringS_o_ho, fun x => laws_markStringS_o k x.1.2.1 x.2.1.1⟩
theorem laws_markStringS_o_l0_ok (k : Nat) (pins : Nat → Value) (pinB : Nat → Nat) : LoopOK (mkEnv ti [(39, fe_laws_markText k)] (lk []) pins pinB) (laws_markStringS_o_O k) (rdO (mkEnv ti [(39, fe_laws_markText k)] (lk []) pins pinB) [.tmp 4] laws_markStringS_o_ho) ((loopsOf (codeOf Try.f19)).getD 0 .skip) (fun σ kx => laws_markStringS_o_l0_h.get σ fun x => laws_markStringS_o_l0_F k k x kx) := by
  refine ⟨laws_markStringS_o_l0_h, [(0, laws_markStringS_o_l0_x0)], fun n x kx => laws_markStringS_o_l0_F k n x kx, k, by kernel_rfl, by kernel_rfl, fun x kx => by kernel_rfl, ?_, fun σ kx => rfl⟩
  rintro n ⟨⟨⟨⟩, k1, i5, ⟨⟩⟩, ⟨q_2, ⟨⟩⟩, ⟨⟩⟩ kx
  kernel_rfl
theorem ok_laws_markStringS_o (k : Nat) : OpenOK Try.prog ti 19 (oc_laws_markStringS_o k) := by
  refine open_ok (tab := [(39, fe_laws_markText k)]) (l := []) ti_ok ti_ht mix (List.forall_mem_cons.2 ⟨ok_laws_markText k, (List.forall_mem_nil _)⟩) (List.forall_mem_nil _) ⟨by kernel_rfl, by kernel_rfl, Try.f19, (codeOf Try.f19), [.tmp 4], (laws_markStringS_o_O k), by kernel_rfl, by kernel_rfl, by kernel_rfl, by kernel_rfl, Nat.le_of_ble_eq_true (by kernel_rfl), fun pins pinB => ⟨⟨by kernel_rfl, ?_, ?_⟩, ?_⟩⟩
  · refine loops_of (n := 1) (by kernel_rfl) fun i hi => ?_
    match i, hi with
    | 0, _ => exact loop_of (by kernel_rfl) (laws_markStringS_o_l0_ok k pins pinB)
    | n + 1, hi => omega
  · exact no_cuts (by kernel_rfl)
  · rintro ⟨⟨⟨⟩, k1, ⟨⟩⟩, ⟨q_1, ⟨⟩⟩, ⟨⟩⟩
    kernel_rfl
/- 20 loop.example/g01005/laws.heldStringS -/
def laws_heldStringS_l0 (k : Nat) : Nat → (List (List UInt8)) → Int → Int → (Int → Option Int) → Option Int
  | 0, _, _, _, _ => none
  | n + 1, a0, k1, i5, e_0 => (if (decide (i5 < (List.length a0 : Int))) = true then (if 0 ≤ i5 then (a0[i5.toNat]?).bind fun y_1 => (laws_markText k k1).bind fun r_2 => (if (!(decide (y_1 = r_2))) = true then some (-1) else laws_heldStringS_l0 k n a0 (w_i64 (k1 + 1)) (w_i64 (i5 + 1)) e_0) else none) else e_0 k1)
def laws_heldStringS (k : Nat) (a0 : List (List UInt8)) (k1 : Int) : Option Int := laws_heldStringS_l0 k k a0 k1 0 (fun k_3 => some k_3)
def laws_heldStringS_l0_h : Head := ⟨[(0, (.val (.sl 9 .str))), (1, (.val (.int .i64))), (5, (.val (.int .i64)))], [], []⟩
def laws_heldStringS_l0_x0 : Head := ⟨[(1, (.val (.int .i64)))], [], []⟩
def laws_heldStringS_l0_F (k n : Nat) (x : laws_heldStringS_l0_h.T) (kx : Nat → St → Option Int) : Option Int := laws_heldStringS_l0 k n x.1.1 x.1.2.1 x.1.2.2.1 (fun (k1 : Int) => kx 0 (laws_heldStringS_l0_x0.fill ((k1, ()), (), ())))
def laws_heldStringS_O (k : Nat) : Oracles Int := ⟨fun n => bif Nat.beq n 2 then some (fun σ kx => laws_heldStringS_l0_h.get σ fun x => laws_heldStringS_l0_F k k x kx) else none, fun _ => none⟩
def fe_laws_heldStringS (k : Nat) : FE := ⟨(.pr (.sl 9 .str) (.int .i64)), 1, (.int .i64), fun x => laws_heldStringS k x.1 x.2⟩
theorem laws_heldStringS_l0_ok (k : Nat) : LoopOK (mkEnv ti [(39, fe_laws_markText k)] (lk []) pins0 pinB0) (laws_heldStringS_O k) (rdC (mkEnv ti [(39, fe_laws_markText k)] (lk []) pins0 pinB0) [.tmp 4] (.int .i64)) ((loopsOf (codeOf Try.f20)).getD 0 .skip) (fun σ kx => laws_heldStringS_l0_h.get σ fun x => laws_heldStringS_l0_F k k x kx) := by
  refine ⟨laws_heldStringS_l0_h, [(0, laws_heldStringS_l0_x0)], fun n x kx => laws_heldStringS_l0_F k n x kx, k, by kernel_rfl, by kernel_rfl, fun x kx => by kernel_rfl, ?_, fun σ kx => rfl⟩
  rintro n ⟨⟨a0, k1, i5, ⟨⟩⟩, ⟨⟩, ⟨⟩⟩ kx
  kernel_rfl
theorem ok_laws_heldStringS (k : Nat) : FnOK Try.prog 20 (fe_laws_heldStringS k) := by
  refine closed_ok (tab := [(39, fe_laws_markText k)]) (l := []) ti_ok ti_ht mix (List.forall_mem_cons.2 ⟨ok_laws_markText k, (List.forall_mem_nil _)⟩) (List.forall_mem_nil _) ⟨⟨Try.f20, (codeOf Try.f20), [.tmp 4], (laws_heldStringS_O k), by kernel_rfl, by kernel_rfl, by kernel_rfl, by kernel_rfl, rfl, by decide, ⟨by kernel_rfl, ?_, ?_⟩, ?_⟩⟩
  · refine loops_of (n := 1) (by kernel_rfl) fun i hi => ?_
    match i, hi with
    | 0, _ => exact loop_of (by kernel_rfl) (laws_heldStringS_l0_ok k)
    | n + 1, hi => omega
  · exact no_cuts (by kernel_rfl)
  · rintro ⟨a0, k1⟩
    kernel_rfl
/- 5 loop.example/g01005/laws.FnExactCommandNames -/
def laws_FnExactCommandNames (k : Nat) : Option Bool := (spec_CommandNames).bind fun r_1 => (impl_CommandNames).bind fun r_2 => (laws_eqStringS k r_2 r_1).bind fun r_3 => (if (!r_3) = true then some false else (laws_markStringS_o k 1 r_2).bind fun y_4 => (laws_heldStringS k y_4.2.1.1 1).bind fun r_5 => (if (decide (r_5 < 0)) = true then some false else (if (!(decide (r_5 = y_4.1.1))) = true then some false else (impl_CommandNames).bind fun r_6 => (laws_eqStringS k r_6 r_1).bind fun r_7 => (if (!r_7) = true then some false else (laws_heldStringS k y_4.2.1.1 1).bind fun r_8 => (if (decide (r_8 < 0)) = true then some false else (if (!(decide (r_8 = y_4.1.1))) = true then some false else some true))))))
def fe_laws_FnExactCommandNames (k : Nat) : FE := ⟨.un, 1, .bool, fun x => laws_FnExactCommandNames k⟩
theorem ok_laws_FnExactCommandNames (k : Nat) : FnOK Try.prog 5 (fe_laws_FnExactCommandNames k) := by
  refine closed_ok (tab := [(16, fe_spec_CommandNames), (17, fe_impl_CommandNames), (18, fe_laws_eqStringS k), (20, fe_laws_heldStringS k)]) (l := [(14, 19, oc_laws_markStringS_o k)]) ti_ok ti_ht mix (List.forall_mem_cons.2 ⟨ok_spec_CommandNames, (List.forall_mem_cons.2 ⟨ok_impl_CommandNames, (List.forall_mem_cons.2 ⟨ok_laws_eqStringS k, (List.forall_mem_cons.2 ⟨ok_laws_heldStringS k, (List.forall_mem_nil _)⟩)⟩)⟩)⟩) (List.forall_mem_cons.2 ⟨ok_laws_markStringS_o k, (List.forall_mem_nil _)⟩) ⟨⟨Try.f5, (codeOf Try.f5), [.tmp 0], (LOn Bool), by kernel_rfl, by kernel_rfl, by kernel_rfl, by kernel_rfl, rfl, by decide, ⟨by kernel_rfl, ?_, ?_⟩, ?_⟩⟩
  · exact no_loops (by kernel_rfl)
  · exact no_cuts (by kernel_rfl)
  · rintro ⟨⟩
    kernel_rfl
/- 21 loop.example/g01005/laws.szStringS -/
def laws_szStringS_l0 (k : Nat) : Nat → (List (List UInt8)) → Int → Int → (Int → Option Int) → Option Int
  | 0, _, _, _, _ => none
  | n + 1, a0, left1, i5, e_0 => (if (decide (i5 < (List.length a0 : Int))) = true then (if 0 ≤ i5 then (a0[i5.toNat]?).bind fun y_1 => (if (decide ((w_i64 (left1 - (List.length y_1 : Int))) < 0)) = true then some (-1) else laws_szStringS_l0 k n a0 (w_i64 (left1 - (List.length y_1 : Int))) (w_i64 (i5 + 1)) e_0) else none) else e_0 left1)
def laws_szStringS (k : Nat) (a0 : List (List UInt8)) (left1 : Int) : Option Int := (if (decide ((w_i64 (left1 - (List.length a0 : Int))) < 0)) = true then some (-1) else laws_szStringS_l0 k k a0 (w_i64 (left1 - (List.length a0 : Int))) 0 (fun left_2 => some left_2))
def laws_szStringS_l0_h : Head := ⟨[(0, (.val (.sl 9 .str))), (1, (.val (.int .i64))), (5, (.val (.int .i64)))], [], []⟩
def laws_szStringS_l0_x0 : Head := ⟨[(1, (.val (.int .i64)))], [], []⟩
def laws_szStringS_l0_F (k n : Nat) (x : laws_szStringS_l0_h.T) (kx : Nat → St → Option Int) : Option Int := laws_szStringS_l0 k n x.1.1 x.1.2.1 x.1.2.2.1 (fun (left1 : Int) => kx 0 (laws_szStringS_l0_x0.fill ((left1, ()), (), ())))
def laws_szStringS_O (k : Nat) : Oracles Int := ⟨fun n => bif Nat.beq n 5 then some (fun σ kx => laws_szStringS_l0_h.get σ fun x => laws_szStringS_l0_F k k x kx) else none, fun _ => none⟩
def fe_laws_szStringS (k : Nat) : FE := ⟨(.pr (.sl 9 .str) (.int .i64)), 1, (.int .i64), fun x => laws_szStringS k x.1 x.2⟩
theorem laws_szStringS_l0_ok (k : Nat) : LoopOK (mkEnv ti [] (lk []) pins0 pinB0) (laws_szStringS_O k) (rdC (mkEnv ti [] (lk []) pins0 pinB0) [.tmp 4] (.int .i64)) ((loopsOf (codeOf Try.f21)).getD 0 .skip) (fun σ kx => laws_szStringS_l0_h.get σ fun x => laws_szStringS_l0_F k k x kx) := by
  refine ⟨laws_szStringS_l0_h, [(0, laws_szStringS_l0_x0)], fun n x kx => laws_szStringS_l0_F k n x kx, k, by kernel_rfl, by kernel_rfl, fun x kx => by kernel_rfl, ?_, fun σ kx => rfl⟩
  rintro n ⟨⟨a0, left1, i5, ⟨⟩⟩, ⟨⟩, ⟨⟩⟩ kx
  kernel_rfl
theorem ok_laws_szStringS (k : Nat) : FnOK Try.prog 21 (fe_laws_szStringS k) := by
  refine closed_ok (tab := []) (l := []) ti_ok ti_ht mix (List.forall_mem_nil _) (List.forall_mem_nil _) ⟨⟨Try.f21, (codeOf Try.f21), [.tmp 4], (laws_szStringS_O k), by kernel_rfl, by kernel_rfl, by kernel_rfl, by kernel_rfl, rfl, by decide, ⟨by kernel_rfl, ?_, ?_⟩, ?_⟩⟩
  · refine loops_of (n := 1) (by kernel_rfl) fun i hi => ?_
    match i, hi with
    | 0, _ => exact loop_of (by kernel_rfl) (laws_szStringS_l0_ok k)
    | n + 1, hi => omega
  · exact no_cuts (by kernel_rfl)
  · rintro ⟨a0, left1⟩
    kernel_rfl
/- 23 loop.example/g01005/laws.toStringS -/
def laws_toStringS_l0 (k : Nat) : Nat → (List (List UInt8)) → Int → (List (List UInt8)) → ((List (List UInt8)) → Option (List (List UInt8))) → Option (List (List UInt8))
  | 0, _, _, _, _ => none
  | n + 1, a0, i4, q_1, e_0 => (if (decide (i4 < (List.length a0 : Int))) = true then (if 0 ≤ i4 then (a0[i4.toNat]?).bind fun y_2 => (if 0 ≤ i4 ∧ i4.toNat < List.length q_1 then (q_1[i4.toNat]?).bind fun y_3 => (q_1[i4.toNat]?).bind fun y_4 => laws_toStringS_l0 k n a0 (w_i64 (i4 + 1)) (q_1.set i4.toNat y_2) e_0 else none) else none) else e_0 q_1)
def laws_toStringS (k : Nat) (a0 : List (List UInt8)) : Option (List (List UInt8)) := (if 0 ≤ (List.length a0 : Int) ∧ (List.length a0 : Int) ≤ (List.length a0 : Int) ∧ (List.length a0 : Int) * 16 ≤ LIM then laws_toStringS_l0 k k a0 0 (List.replicate (List.length a0) []) (fun q_5 => some q_5) else none)
def laws_toStringS_l0_h : Head := ⟨[(0, (.val (.sl 9 .str))), (3, (.ref 64000000 [])), (4, (.val (.int .i64)))], [(64000000, 9, .str, false)], []⟩
def laws_toStringS_l0_x0 : Head := ⟨[(3, (.ref 64000000 []))], [(64000000, 9, .str, false)], []⟩
def laws_toStringS_l0_F (k n : Nat) (x : laws_toStringS_l0_h.T) (kx : Nat → St → Option (List (List UInt8))) : Option (List (List UInt8)) := laws_toStringS_l0 k n x.1.1 x.1.2.2.1 x.2.1.1 (fun (q_5 : List (List UInt8)) => kx 0 (laws_toStringS_l0_x0.fill (((), ()), (q_5, ()), ())))
def laws_toStringS_O (k : Nat) : Oracles (List (List UInt8)) := ⟨fun n => bif Nat.beq n 3 then some (fun σ kx => laws_toStringS_l0_h.get σ fun x => laws_toStringS_l0_F k k x kx) else none, fun _ => none⟩
def fe_laws_toStringS (k : Nat) : FE := ⟨(.sl 9 .str), 1, (.sl 9 .str), fun x => laws_toStringS k x⟩
theorem laws_toStringS_l0_ok (k : Nat) : LoopOK (mkEnv ti [] (lk []) pins0 pinB0) (laws_toStringS_O k) (rdC (mkEnv ti [] (lk []) pins0 pinB0) [.tmp 2] (.sl 9 .str)) ((loopsOf (codeOf Try.f23)).getD 0 .skip) (fun σ kx => laws_toStringS_l0_h.get σ fun x => laws_toStringS_l0_F k k x kx) := by
  refine ⟨laws_toStringS_l0_h, [(0, laws_toStringS_l0_x0)], fun n x kx => laws_toStringS_l0_F k n x kx, k, by kernel_rfl, by kernel_rfl, fun x kx => by kernel_rfl, ?_, fun σ kx => rfl⟩
  rintro n ⟨⟨a0, ⟨⟩, i4, ⟨⟩⟩, ⟨q_1, ⟨⟩⟩, ⟨⟩⟩ kx
  kernel_rfl
theorem ok_laws_toStringS (k : Nat) : FnOK Try.prog 23 (fe_laws_toStringS k) := by
  refine closed_ok (tab := []) (l := []) ti_ok ti_ht mix (List.forall_mem_nil _) (List.forall_mem_nil _) ⟨⟨Try.f23, (codeOf Try.f23), [.tmp 2], (laws_toStringS_O k), by kernel_rfl, by kernel_rfl, by kernel_rfl, by kernel_rfl, rfl, by decide, ⟨by kernel_rfl, ?_, ?_⟩, ?_⟩⟩
  · refine loops_of (n := 1) (by kernel_rfl) fun i hi => ?_
    match i, hi with
    | 0, _ => exact loop_of (by kernel_rfl) (laws_toStringS_l0_ok k)
    | n + 1, hi => omega
  · exact no_cuts (by kernel_rfl)
  · rintro a0
    kernel_rfl
/- 40 loop.example/g01005/spec.l30Ok -/
def spec_l30Ok_l1 (k : Nat) : Nat → (List (List UInt8)) → Int → Int → ((List (List UInt8)) → Int → Option Bool) → Option Bool
  | 0, _, _, _, _ => none
  | n + 1, lines0, i3, k4, e_2 => (if 0 ≤ i3 then (lines0[i3.toNat]?).bind fun y_4 => (if (decide (k4 < (List.length y_4 : Int))) = true then (if 0 ≤ i3 then (lines0[i3.toNat]?).bind fun y_5 => (if 0 ≤ k4 then (y_5[k4.toNat]?).bind fun b_6 => (if (decide ((z_u8 b_6) < 32)) = true then some false else (if 0 ≤ i3 then (lines0[i3.toNat]?).bind fun y_7 => (if 0 ≤ k4 then (y_7[k4.toNat]?).bind fun b_8 => (if (decide (126 < (z_u8 b_8))) = true then some false else spec_l30Ok_l1 k n lines0 i3 (w_i64 (k4 + 1)) e_2) else none) else none)) else none) else none) else e_2 lines0 i3) else none)
def spec_l30Ok_l0 (k : Nat) : Nat → (List (List UInt8)) → Int → ((List (List UInt8)) → Option Bool) → Option Bool
  | 0, _, _, _ => none
  | n + 1, lines0, i3, e_0 => (if (decide (i3 < (List.length lines0 : Int))) = true then (if 0 ≤ i3 then (lines0[i3.toNat]?).bind fun y_1 => (lines0[0]?).bind fun y_2 => (if (!(decide ((List.length y_1 : Int) = (List.length y_2 : Int)))) = true then some false else (if 0 ≤ i3 then (lines0[i3.toNat]?).bind fun y_3 => (if (decide (80 < (List.length y_3 : Int))) = true then some false else spec_l30Ok_l1 k k lines0 i3 0 (fun lines_4 i_5 => spec_l30Ok_l0 k n lines_4 (w_i64 (i_5 + 1)) e_0)) else none)) else none) else e_0 lines0)
def spec_l30Ok (k : Nat) (lines0 : List (List UInt8)) : Option Bool := spec_l30Ok_l0 k k lines0 0 (fun lines_6 => some (decide ((List.length lines_6 : Int) ≤ 60)))
def spec_l30Ok_l1_h : Head := ⟨[(0, (.val (.sl 9 .str))), (3, (.val (.int .i64))), (4, (.val (.int .i64)))], [], []⟩
def spec_l30Ok_l1_x2 : Head := ⟨[(0, (.val (.sl 9 .str))), (3, (.val (.int .i64)))], [], []⟩
def spec_l30Ok_l1_F (k n : Nat) (x : spec_l30Ok_l1_h.T) (kx : Nat → St → Option Bool) : Option Bool := spec_l30Ok_l1 k n x.1.1 x.1.2.1 x.1.2.2.1 (fun (lines0 : List (List UInt8)) (i3 : Int) => kx 2 (spec_l30Ok_l1_x2.fill ((lines0, i3, ()), (), ())))
def spec_l30Ok_l0_h : Head := ⟨[(0, (.val (.sl 9 .str))), (3, (.val (.int .i64)))], [], []⟩
def spec_l30Ok_l0_x0 : Head := ⟨[(0, (.val (.sl 9 .str)))], [], []⟩
def spec_l30Ok_l0_F (k n : Nat) (x : spec_l30Ok_l0_h.T) (kx : Nat → St → Option Bool) : Option Bool := spec_l30Ok_l0 k n x.1.1 x.1.2.1 (fun (lines0 : List (List UInt8)) => kx 0 (spec_l30Ok_l0_x0.fill ((lines0, ()), (), ())))
def spec_l30Ok_O (k : Nat) : Oracles Bool := ⟨fun n => bif Nat.beq n 7 then some (fun σ kx => spec_l30Ok_l1_h.get σ fun x => spec_l30Ok_l1_F k k x kx) else bif Nat.beq n 2 then some (fun σ kx => spec_l30Ok_l0_h.get σ fun x => spec_l30Ok_l0_F k k x kx) else none, fun _ => none⟩
def fe_spec_l30Ok (k : Nat) : FE := ⟨(.sl 9 .str), 1, .bool, fun x => spec_l30Ok k x⟩
theorem spec_l30Ok_l1_ok (k : Nat) : LoopOK (mkEnv ti [] (lk []) pins0 pinB0) (spec_l30Ok_O k) (rdC (mkEnv ti [] (lk []) pins0 pinB0) [.tmp 2] .bool) ((loopsOf (codeOf Try.f40)).getD 1 .skip) (fun σ kx => spec_l30Ok_l1_h.get σ fun x => spec_l30Ok_l1_F k k x kx) := by
  refine ⟨spec_l30Ok_l1_h, [(2, spec_l30Ok_l1_x2)], fun n x kx => spec_l30Ok_l1_F k n x kx, k, by kernel_rfl, by kernel_rfl, fun x kx => by kernel_rfl, ?_, fun σ kx => rfl⟩
  rintro n ⟨⟨lines0, i3, k4, ⟨⟩⟩, ⟨⟩, ⟨⟩⟩ kx
  kernel_rfl
theorem spec_l30Ok_l0_ok (k : Nat) : LoopOK (mkEnv ti [] (lk []) pins0 pinB0) (spec_l30Ok_O k) (rdC (mkEnv ti [] (lk []) pins0 pinB0) [.tmp 2] .bool) ((loopsOf (codeOf Try.f40)).getD 0 .skip) (fun σ kx => spec_l30Ok_l0_h.get σ fun x => spec_l30Ok_l0_F k k x kx) := by
  refine ⟨spec_l30Ok_l0_h, [(0, spec_l30Ok_l0_x0)], fun n x kx => spec_l30Ok_l0_F k n x kx, k, by kernel_rfl, by kernel_rfl, fun x kx => by kernel_rfl, ?_, fun σ kx => rfl⟩
  rintro n ⟨⟨lines0, i3, ⟨⟩⟩, ⟨⟩, ⟨⟩⟩ kx
  kernel_rfl
theorem ok_spec_l30Ok (k : Nat) : FnOK Try.prog 40 (fe_spec_l30Ok k) := by
  refine closed_ok (tab := []) (l := []) ti_ok ti_ht mix (List.forall_mem_nil _) (List.forall_mem_nil _) ⟨⟨Try.f40, (codeOf Try.f40), [.tmp 2], (spec_l30Ok_O k), by kernel_rfl, by kernel_rfl, by kernel_rfl, by kernel_rfl, rfl, by decide, ⟨by kernel_rfl, ?_, ?_⟩, ?_⟩⟩
  · refine loops_of (n := 2) (by kernel_rfl) fun i hi => ?_
    match i, hi with
    | 0, _ => exact loop_of (by kernel_rfl) (spec_l30Ok_l0_ok k)
    | 1, _ => exact loop_of (by kernel_rfl) (spec_l30Ok_l1_ok k)
    | n + 2, hi => omega
  · exact no_cuts (by kernel_rfl)
  · rintro lines0
    kernel_rfl
/- 22 loop.example/g01005/spec.ValidPicture -/
def spec_ValidPicture (k : Nat) (lines0 : List (List UInt8)) : Option Bool := (spec_l30Ok k lines0).bind fun r_1 => some r_1
def fe_spec_ValidPicture (k : Nat) : FE := ⟨(.sl 9 .str), 1, .bool, fun x => spec_ValidPicture k x⟩
theorem ok_spec_ValidPicture (k : Nat) : FnOK Try.prog 22 (fe_spec_ValidPicture k) := by
  refine closed_ok (tab := [(40, fe_spec_l30Ok k)]) (l := []) ti_ok ti_ht mix (List.forall_mem_cons.2 ⟨ok_spec_l30Ok k, (List.forall_mem_nil _)⟩) (List.forall_mem_nil _) ⟨⟨Try.f22, (codeOf Try.f22), [.tmp 2], (LOn Bool), by kernel_rfl, by kernel_rfl, by kernel_rfl, by kernel_rfl, rfl, by decide, ⟨by kernel_rfl, ?_, ?_⟩, ?_⟩⟩
  · exact no_loops (by kernel_rfl)
  · exact no_cuts (by kernel_rfl)
  · rintro lines0
    kernel_rfl
end Go.Proofs.Ytlcophcnioaaoaa.Ev
