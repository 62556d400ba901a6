/- FnExactBesidePictures: whatever the input, the law answers true, and its arguments read as they did. No conditions. -/
import Derived.Test.YtkopnopjbaejjaaRows
import Derived.Test.YtkopnopjbaejjaaPureFnExactBesidePictures
import Derived.WalkKit
import Derived.ProofKit
import Derived.OpenShut
import Derived.ShutString
import Derived.ChangeOld
import Derived.Below
import Derived.SizedLaws
set_option linter.unusedVariables false
namespace Go.Proofs.Ytkopnopjbaejjaa.fnExactBesidePictures
open Go.ChangeShapes Go.WideShapes Go.ChangeAt Go.RowKit Go.Proofs.Ytkopnopjbaejjaa.Ev
theorem own : ownKnob Try.prog.godebug = none := by kernel_rfl
theorem laidOut : laidOutB Try.prog = true := by kernel_rfl
set_option maxRecDepth 100000 in
theorem lifted (os : Os) (started : os.Started) (H : Type) (enc : TypeId × Value → H) :
    ReturnsInHanded {} Try.checked os 7 .any (Rows.fnExactBesidePicturesSpec.pre6 enc Try.prog Try.f7 Rows.fnExactBesidePicturesRow.domain false) (Rows.fnExactBesidePicturesSpec.post enc Try.prog Try.f7 false true false false) := by
  refine returnsInHanded_of_change_sized (C := Try.checked) own started (by kernel_rfl) Try.func7
    (ChangeSpec.witness6 (enc := enc) (C := Try.checked) false ⟨#[], #[.slice none 0 0, .slice none 0 0, .int .i64 0], []⟩ 8 (by kernel_rfl) (by kernel_rfl) (by kernel_rfl) (by kernel_rfl)) ?_
  intro W base args ds gs before hval0 hW hcnd hsz0 _
  have hsz : (DataW.weightsEach Try.prog (Try.f7.params.toList ++ Rows.fnExactBesidePicturesSpec.plain.varTypes Try.prog) (ds ++ gs)).all (· ≤ reachBytes) = true := hsz0
  have hval : ∀ (j : Nat) t v, Try.f7.params[j]? = some t → args[j]? = some v → Value.okWide Try.prog W .any base t v := hval0
  have hW' := hW
  obtain ⟨p, q, hA0, hV, rfl, hfz, hnd⟩ := hW
  have hA : DataW.TrodAll enc Try.prog W 0 (fun _ => true) true Try.f7.params.toList args.toList ds p := hA0
  rw [Try.params7] at hA hval hsz
  obtain ⟨v0, vs0, d0, ds0, p0, q0, hargs, rfl, rfl, h0, r0⟩ := trodAll_cons hA
  obtain ⟨v1, vs1, d1, ds1, p1, q1, rfl, rfl, rfl, h1, r1⟩ := trodAll_cons r0
  obtain ⟨v2, vs2, d2, ds2, p2, q2, rfl, rfl, rfl, h2, r2⟩ := trodAll_cons r1
  obtain ⟨rfl, rfl, rfl⟩ := trodAll_nil r2
  obtain rfl : args = #[v0, v1, v2] := by cases args; simp_all
  obtain ⟨rfl, rfl⟩ := trodVars_none hV
  have lt0 : ∀ x ∈ p0, x.block < W.heap.size := by obtain ⟨m, hm⟩ := h0; exact DataW.trod_lt m _ _ _ hm
  obtain ⟨a0, y0, f0⟩ := arg_rd' (E := mkEnv ti [] (fun _ => none) pins0 pinB0) ti_ok (t := 40) (c := (.sl 9 .str)) (by kernel_rfl) (by kernel_rfl) (hval 0 40 v0 rfl rfl) h0 (weigh hsz (j := 0) (t := 40) rfl rfl)
  have lt1 : ∀ x ∈ p1, x.block < W.heap.size := by obtain ⟨m, hm⟩ := h1; exact DataW.trod_lt m _ _ _ hm
  obtain ⟨a1, y1, f1⟩ := arg_rd' (E := mkEnv ti [] (fun _ => none) pins0 pinB0) ti_ok (t := 40) (c := (.sl 9 .str)) (by kernel_rfl) (by kernel_rfl) (hval 1 40 v1 rfl rfl) h1 (weigh hsz (j := 1) (t := 40) rfl rfl)
  have lt2 : ∀ x ∈ p2, x.block < W.heap.size := by obtain ⟨m, hm⟩ := h2; exact DataW.trod_lt m _ _ _ hm
  obtain ⟨a2, y2, f2⟩ := arg_rd' (E := mkEnv ti [] (fun _ => none) pins0 pinB0) ti_ok (t := 2) (c := (.int .i64)) (by kernel_rfl) (by kernel_rfl) (hval 2 2 v2 rfl rfl) h2 (weigh hsz (j := 2) (t := 2) rfl rfl)
  obtain ⟨k, hk⟩ := Pure.FnExactBesidePictures a0 a1 a2 f0 f1 f2
  refine (law_walk Try.func7 (c := codeOf Try.f7) (by kernel_rfl) (by kernel_rfl) (ok_laws_FnExactBesidePictures k) (args := [⟨(.sl 9 .str), a0⟩, ⟨(.sl 9 .str), a1⟩, ⟨(.int .i64), a2⟩]) (vs := #[v0, v1, v2]) (show Args W [⟨(.sl 9 .str), a0⟩, ⟨(.sl 9 .str), a1⟩, ⟨(.int .i64), a2⟩] [v0, v1, v2] from ⟨y0, y1, y2, trivial⟩) (x := (a0, a1, a2)) (by kernel_rfl) hk).mono fun e W' ⟨he, bel⟩ => ?_
  subst he
  exact ⟨_, rfl, _, _, _, [], _, [], hW', trodAll_mk1 (shut_bool Try.underlying4 _), (trodAll_cons_mk (Below.trod laidOut (by kernel_rfl) (of_decide_eq_true (by kernel_rfl)) h0 bel lt0) (trodAll_cons_mk (Below.trod laidOut (by kernel_rfl) (of_decide_eq_true (by kernel_rfl)) h1 bel lt1) (trodAll_cons_mk (Below.trod laidOut (by kernel_rfl) (of_decide_eq_true (by kernel_rfl)) h2 bel lt2) trodAll_mk0))), rfl, bel.frame _, fun h => by cases h⟩
theorem over : Rows.fnExactBesidePicturesRow.holds Try.pinned (OpenSpec.ofChange Rows.fnExactBesidePicturesSpec) :=
  OpenClaim.holds_of_wide 7 Try.f7 rfl rfl rfl rfl rfl rfl rfl ⟨rfl, rfl, rfl, rfl, rfl⟩ rfl rfl rfl rfl rfl (by kernel_rfl) Try.func7 (by kernel_rfl)
    (of_decide_eq_true (by kernel_rfl)) (by unfold Func.isWrapper; first | (rw [if_pos (by decide +kernel)]; kernel_rfl) | (rw [if_neg (by decide +kernel)]; exact ⟨rfl, rfl⟩))
    (fun os started H enc _ => lifted os started H enc)
theorem proved : Rows.FnExactBesidePicturesSaid := over
end Go.Proofs.Ytkopnopjbaejjaa.fnExactBesidePictures
namespace Go.Proofs.Ytkopnopjbaejjaa
/-- The row, under a short name, for the claim. -/
theorem fnExactBesidePictures_holds : Rows.FnExactBesidePicturesSaid := fnExactBesidePictures.proved
#print axioms fnExactBesidePictures_holds
end Go.Proofs.Ytkopnopjbaejjaa
