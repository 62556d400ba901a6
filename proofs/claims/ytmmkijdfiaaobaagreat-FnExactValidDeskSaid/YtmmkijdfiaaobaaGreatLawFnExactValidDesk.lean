/- FnExactValidDesk: whatever the input, the law answers true, and its arguments read as they did. No conditions. -/
import Derived.Test.YtmmkijdfiaaobaaGreatRows
import Derived.Test.YtmmkijdfiaaobaaGreatPureFnExactValidDesk
import Derived.WalkKit
import Derived.ProofKit
import Derived.OpenShut
import Derived.ShutString
import Derived.ChangeOld
import Derived.Below
import Derived.SizedLaws
set_option linter.unusedVariables false
namespace Go.Proofs.YtmmkijdfiaaobaaGreat.fnExactValidDesk
open Go.ChangeShapes Go.WideShapes Go.ChangeAt Go.RowKit Go.Proofs.YtmmkijdfiaaobaaGreat.Ev
theorem own : ownKnob Tryz.prog.godebug = none := by kernel_rfl
theorem laidOut : laidOutB Tryz.prog = true := by kernel_rfl
set_option maxRecDepth 100000 in
theorem lifted (os : Os) (started : os.Started) (H : Type) (enc : TypeId × Value → H) :
    ReturnsInHanded {} Tryz.checked os 3 .any (Rows.fnExactValidDeskSpec.pre6 enc Tryz.prog Tryz.f3 Rows.fnExactValidDeskRow.domain false) (Rows.fnExactValidDeskSpec.post enc Tryz.prog Tryz.f3 false true false false) := by
  refine returnsInHanded_of_change_sized (C := Tryz.checked) own started (by kernel_rfl) Tryz.func3
    (ChangeSpec.witness6 (enc := enc) (C := Tryz.checked) false ⟨#[], #[.agg #[.slice none 0 0, .int .i64 0, .slice none 0 0, .slice none 0 0, .slice none 0 0, .int .i64 0, .slice none 0 0, .slice none 0 0, .int .i64 0, .int .i64 0, .int .i64 0, .slice none 0 0, .slice none 0 0, .slice none 0 0, .slice none 0 0, .slice none 0 0]], []⟩ 8 (by kernel_rfl) (by kernel_rfl) (by kernel_rfl) (by kernel_rfl)) ?_
  intro W base args ds gs before hval0 hW hcnd hsz0 _
  have hsz : (DataW.weightsEach Tryz.prog (Tryz.f3.params.toList ++ Rows.fnExactValidDeskSpec.plain.varTypes Tryz.prog) (ds ++ gs)).all (· ≤ reachBytes) = true := hsz0
  have hval : ∀ (j : Nat) t v, Tryz.f3.params[j]? = some t → args[j]? = some v → Value.okWide Tryz.prog W .any base t v := hval0
  have hW' := hW
  obtain ⟨p, q, hA0, hV, rfl, hfz, hnd⟩ := hW
  have hA : DataW.TrodAll enc Tryz.prog W 0 (fun _ => true) true Tryz.f3.params.toList args.toList ds p := hA0
  rw [Tryz.params3] at hA hval hsz
  obtain ⟨v0, vs0, d0, ds0, p0, q0, hargs, rfl, rfl, h0, r0⟩ := trodAll_cons hA
  obtain ⟨rfl, rfl, rfl⟩ := trodAll_nil r0
  obtain rfl : args = #[v0] := by cases args; simp_all
  obtain ⟨rfl, rfl⟩ := trodVars_none hV
  have lt0 : ∀ x ∈ p0, x.block < W.heap.size := by obtain ⟨m, hm⟩ := h0; exact DataW.trod_lt m _ _ _ hm
  obtain ⟨a0, y0, f0⟩ := arg_rd' (E := mkEnv ti [] (fun _ => none) pins0 pinB0) ti_ok (t := 39) (c := (.st (.pr (.st (.pr (.st (.sl 25 (.sl 2 (.int .i64)))) (.pr (.int .i64) (.pr (.sl 2 (.int .i64)) (.sl 33 (.st (.pr (.int .i64) (.pr (.int .i64) (.pr (.int .i64) (.sl 2 (.int .i64))))))))))) (.pr (.sl 2 (.int .i64)) (.pr (.st (.pr (.int .i64) (.sl 165 (.st (.pr (.int .i64) (.pr (.int .i64) (.int .i64))))))) (.pr (.sl 2 (.int .i64)) (.pr (.st (.pr (.int .i64) (.pr (.int .i64) (.pr (.int .i64) (.sl 2 (.int .i64)))))) (.pr (.sl 96 (.st (.pr (.sl 2 (.int .i64)) (.sl 25 (.sl 2 (.int .i64)))))) (.pr (.st (.pr (.st (.sl 25 (.sl 2 (.int .i64)))) (.sl 2 (.int .i64)))) (.sl 100 (.st (.pr .str (.pr (.sl 9 .str) (.pr (.int .i64) (.int .i64))))))))))))))) (by kernel_rfl) (by kernel_rfl) (hval 0 39 v0 rfl rfl) h0 (weigh hsz (j := 0) (t := 39) rfl rfl)
  have hG : Glob.ok Tryz.prog W := trivial
  obtain ⟨k, hk⟩ := Pure.FnExactValidDesk a0 f0
  refine (law_walk Tryz.func3 (c := codeOf Tryz.f3) (by kernel_rfl) (by kernel_rfl) (ok_laws_FnExactValidDesk k) (hG := hG) (args := [⟨(.st (.pr (.st (.pr (.st (.sl 25 (.sl 2 (.int .i64)))) (.pr (.int .i64) (.pr (.sl 2 (.int .i64)) (.sl 33 (.st (.pr (.int .i64) (.pr (.int .i64) (.pr (.int .i64) (.sl 2 (.int .i64))))))))))) (.pr (.sl 2 (.int .i64)) (.pr (.st (.pr (.int .i64) (.sl 165 (.st (.pr (.int .i64) (.pr (.int .i64) (.int .i64))))))) (.pr (.sl 2 (.int .i64)) (.pr (.st (.pr (.int .i64) (.pr (.int .i64) (.pr (.int .i64) (.sl 2 (.int .i64)))))) (.pr (.sl 96 (.st (.pr (.sl 2 (.int .i64)) (.sl 25 (.sl 2 (.int .i64)))))) (.pr (.st (.pr (.st (.sl 25 (.sl 2 (.int .i64)))) (.sl 2 (.int .i64)))) (.sl 100 (.st (.pr .str (.pr (.sl 9 .str) (.pr (.int .i64) (.int .i64)))))))))))))), a0⟩]) (vs := #[v0]) (show Args W [⟨(.st (.pr (.st (.pr (.st (.sl 25 (.sl 2 (.int .i64)))) (.pr (.int .i64) (.pr (.sl 2 (.int .i64)) (.sl 33 (.st (.pr (.int .i64) (.pr (.int .i64) (.pr (.int .i64) (.sl 2 (.int .i64))))))))))) (.pr (.sl 2 (.int .i64)) (.pr (.st (.pr (.int .i64) (.sl 165 (.st (.pr (.int .i64) (.pr (.int .i64) (.int .i64))))))) (.pr (.sl 2 (.int .i64)) (.pr (.st (.pr (.int .i64) (.pr (.int .i64) (.pr (.int .i64) (.sl 2 (.int .i64)))))) (.pr (.sl 96 (.st (.pr (.sl 2 (.int .i64)) (.sl 25 (.sl 2 (.int .i64)))))) (.pr (.st (.pr (.st (.sl 25 (.sl 2 (.int .i64)))) (.sl 2 (.int .i64)))) (.sl 100 (.st (.pr .str (.pr (.sl 9 .str) (.pr (.int .i64) (.int .i64)))))))))))))), a0⟩] [v0] from ⟨y0, trivial⟩) (x := a0) (by kernel_rfl) hk).mono fun e W' ⟨he, bel⟩ => ?_
  subst he
  exact ⟨_, rfl, _, _, _, [], _, [], hW', trodAll_mk1 (shut_bool Tryz.underlying4 _), (trodAll_cons_mk (Below.trod laidOut (by kernel_rfl) (of_decide_eq_true (by kernel_rfl)) h0 bel lt0) trodAll_mk0), rfl, bel.frame _, fun h => by cases h⟩
theorem and_t {a b : Bool} (x : a = true) (y : b = true) : (a && b) = true := by rw [x, y]; rfl
set_option maxRecDepth 100000 in
set_option maxHeartbeats 0 in
/-- The facts one by one: a big type fills the memory when they are taken as one. -/
theorem closed : joinedFacts Tryz.pinned.checked.prog 3 Tryz.f3 Rows.fnExactValidDeskSpec Rows.fnExactValidDeskRow = true := by
  unfold joinedFacts
  refine (and_t (and_t (and_t (and_t (and_t (and_t (and_t (and_t (and_t (and_t (and_t (and_t (and_t (and_t (and_t (and_t (and_t (and_t (and_t (and_t (and_t (and_t (and_t (and_t (and_t (and_t (and_t (and_t (and_t (and_t (and_t ?_ ?_) ?_) ?_) ?_) ?_) ?_) ?_) ?_) ?_) ?_) ?_) ?_) ?_) ?_) ?_) ?_) ?_) ?_) ?_) ?_) ?_) ?_) ?_) ?_) ?_) ?_) ?_) ?_) ?_) ?_) ?_)
  · as_aux_lemma => kernel_rfl
  · as_aux_lemma => kernel_rfl
  · as_aux_lemma => kernel_rfl
  · as_aux_lemma => kernel_rfl
  · as_aux_lemma => kernel_rfl
  · as_aux_lemma => kernel_rfl
  · as_aux_lemma => kernel_rfl
  · as_aux_lemma => kernel_rfl
  · as_aux_lemma => kernel_rfl
  · as_aux_lemma => kernel_rfl
  · as_aux_lemma => kernel_rfl
  · as_aux_lemma => kernel_rfl
  · as_aux_lemma => kernel_rfl
  · as_aux_lemma => kernel_rfl
  · as_aux_lemma => kernel_rfl
  · as_aux_lemma => kernel_rfl
  · as_aux_lemma => kernel_rfl
  · as_aux_lemma => kernel_rfl
  · as_aux_lemma => kernel_rfl
  · as_aux_lemma => kernel_rfl
  · as_aux_lemma => kernel_rfl
  · as_aux_lemma => kernel_rfl
  · as_aux_lemma => kernel_rfl
  · as_aux_lemma => kernel_rfl
  · as_aux_lemma => kernel_rfl
  · as_aux_lemma => kernel_rfl
  · as_aux_lemma => kernel_rfl
  · as_aux_lemma => kernel_rfl
  · as_aux_lemma => kernel_rfl
  · as_aux_lemma => kernel_rfl
  · as_aux_lemma => kernel_rfl
  · as_aux_lemma => kernel_rfl
theorem over : Rows.fnExactValidDeskRow.holds Tryz.pinned (OpenSpec.ofChange Rows.fnExactValidDeskSpec) :=
  OpenClaim.holds_of_wide 3 Tryz.f3 rfl rfl rfl rfl rfl rfl rfl ⟨rfl, rfl, rfl, rfl, rfl⟩ rfl rfl rfl rfl rfl (by kernel_rfl) Tryz.func3 closed
    (of_decide_eq_true (by kernel_rfl)) (by unfold Func.isWrapper; first | (rw [if_pos (by decide +kernel)]; kernel_rfl) | (rw [if_neg (by decide +kernel)]; exact ⟨rfl, rfl⟩))
    (fun os started H enc _ => lifted os started H enc)
theorem proved : Rows.FnExactValidDeskSaid := over
end Go.Proofs.YtmmkijdfiaaobaaGreat.fnExactValidDesk
namespace Go.Proofs.YtmmkijdfiaaobaaGreat
/-- The row, under a short name, for the claim. -/
theorem fnExactValidDesk_holds : Rows.FnExactValidDeskSaid := fnExactValidDesk.proved
#print axioms fnExactValidDesk_holds
end Go.Proofs.YtmmkijdfiaaobaaGreat
