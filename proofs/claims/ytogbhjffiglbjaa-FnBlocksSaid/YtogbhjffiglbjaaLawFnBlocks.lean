/- FnBlocks: whatever the input, the law answers true, and its arguments read as they did. No conditions. -/
import Derived.Test.YtogbhjffiglbjaaRows
import Derived.Test.YtogbhjffiglbjaaPureFnBlocks
import Derived.WalkKit
import Derived.ProofKit
import Derived.OpenShut
import Derived.ShutString
import Derived.ChangeOld
import Derived.Below
import Derived.SizedLaws
set_option linter.unusedVariables false
namespace Go.Proofs.Ytogbhjffiglbjaa.fnBlocks
open Go.ChangeShapes Go.WideShapes Go.ChangeAt Go.RowKit Go.Proofs.Ytogbhjffiglbjaa.Ev
theorem own:ownKnob Try.prog.godebug=none:=by kernel_rfl
theorem zqd:laidOutB Try.prog=true:=by kernel_rfl
set_option maxRecDepth 100000 in
theorem z10s (os:Os) (started:os.Started) (H:Type) (enc:TypeId×Value→H) :
  ReturnsInHanded {} Try.checked os 3 .any (Rows.fnBlocksSpec.pre6 enc Try.prog Try.f3 Rows.fnBlocksRow.domain false) (Rows.fnBlocksSpec.post enc Try.prog Try.f3 false true false false):=by
 refine returnsInHanded_of_change_sized (C:=Try.checked) own started (by kernel_rfl) Try.func3
  (ChangeSpec.witness6 (enc:=enc) (C:=Try.checked) false ⟨#[],#[.slice none 0 0,.slice none 0 0],[]⟩ 8 (by kernel_rfl) (by kernel_rfl) (by kernel_rfl) (by kernel_rfl)) ?_
 intro W base args ds gs ze hval0 hW hcnd hsz0 _
 have hsz:(DataW.weightsEach Try.prog (Try.f3.params.toList++Rows.fnBlocksSpec.plain.varTypes Try.prog) (ds++gs)).all (·≤reachBytes)=true:=hsz0
 have hval:∀ (j:Nat) t v,Try.f3.params[j]?=some t→args[j]?=some v→Value.okWide Try.prog W .any base t v:=hval0
 have hW':=hW
 obtain ⟨p,q,hA0,hV,rfl,hfz,hnd⟩:=hW
 have hA:DataW.TrodAll enc Try.prog W 0 (fun _=>true) true Try.f3.params.toList args.toList ds p:=hA0
 rw [Try.params3] at hA hval hsz
 obtain ⟨v0,vs0,d0,ds0,p0,q0,hargs,rfl,rfl,h0,r0⟩:=trodAll_cons hA
 obtain ⟨v1,vs1,d1,ds1,p1,q1,rfl,rfl,rfl,h1,r1⟩:=trodAll_cons r0
 obtain ⟨rfl,rfl,rfl⟩:=trodAll_nil r1
 obtain rfl:args=#[v0,v1]:=by cases args; simp_all
 obtain ⟨rfl,rfl⟩:=trodVars_none hV
 have lt0:∀ x∈p0,x.block<W.heap.size:=by obtain ⟨m,hm⟩:=h0; exact DataW.trod_lt m _ _ _ hm
 obtain ⟨a0,y0,f0⟩:=zmq (E:=zm ti [] (fun _=>none) z2t z2u) zf9 (t:=22) (c:=(.sl 5 (.int .u8))) (by kernel_rfl) (by kernel_rfl) (hval 0 22 v0 rfl rfl) h0 (zmr hsz (j:=0) (t:=22) rfl rfl)
 have lt1:∀ x∈p1,x.block<W.heap.size:=by obtain ⟨m,hm⟩:=h1; exact DataW.trod_lt m _ _ _ hm
 obtain ⟨a1,y1,f1⟩:=zmq (E:=zm ti [] (fun _=>none) z2t z2u) zf9 (t:=22) (c:=(.sl 5 (.int .u8))) (by kernel_rfl) (by kernel_rfl) (hval 1 22 v1 rfl rfl) h1 (zmr hsz (j:=1) (t:=22) rfl rfl)
 have hG:Glob.ok Try.prog W:=trivial
 obtain ⟨k,hk⟩:=Pure.FnBlocks a0 a1 f0 f1
 refine (zvn Try.func3 (c:=z2m Try.f3) (by kernel_rfl) (by kernel_rfl) (zz4 k) (hG:=hG) (args:=[⟨(.sl 5 (.int .u8)),a0⟩,⟨(.sl 5 (.int .u8)),a1⟩]) (vs:=#[v0,v1]) (show z6q W [⟨(.sl 5 (.int .u8)),a0⟩,⟨(.sl 5 (.int .u8)),a1⟩] [v0,v1] from ⟨y0,y1,trivial⟩) (x:=(a0,a1)) (by kernel_rfl) hk).mono fun e W' ⟨he,bel⟩=>?_
 subst he
 exact ⟨_,rfl,_,_,_,[],_,[],hW',trodAll_mk1 (shut_bool Try.underlying4 _),(trodAll_cons_mk (Below.trod zqd (by kernel_rfl) (of_decide_eq_true (by kernel_rfl)) h0 bel lt0) (trodAll_cons_mk (Below.trod zqd (by kernel_rfl) (of_decide_eq_true (by kernel_rfl)) h1 bel lt1) trodAll_mk0)),rfl,bel.frame _,fun h=>by cases h⟩
theorem z1m {a b:Bool} (x:a=true) (y:b=true):(a&&b)=true:=by rw [x,y]; rfl
set_option maxRecDepth 100000 in
set_option maxHeartbeats 0 in
/-- The facts one by one: a big type fills the memory when they are taken as one. -/
theorem z10t:joinedFacts Try.pinned.checked.prog 3 Try.f3 Rows.fnBlocksSpec Rows.fnBlocksRow=true:=by
 unfold joinedFacts
 refine (z1m (z1m (z1m (z1m (z1m (z1m (z1m (z1m (z1m (z1m (z1m (z1m (z1m (z1m (z1m (z1m (z1m (z1m (z1m (z1m (z1m (z1m (z1m (z1m (z1m (z1m (z1m (z1m (z1m (z1m (z1m ?_ ?_) ?_) ?_) ?_) ?_) ?_) ?_) ?_) ?_) ?_) ?_) ?_) ?_) ?_) ?_) ?_) ?_) ?_) ?_) ?_) ?_) ?_) ?_) ?_) ?_) ?_) ?_) ?_) ?_) ?_) ?_)
 ·as_aux_lemma=>kernel_rfl
 ·as_aux_lemma=>kernel_rfl
 ·as_aux_lemma=>kernel_rfl
 ·as_aux_lemma=>kernel_rfl
 ·as_aux_lemma=>kernel_rfl
 ·as_aux_lemma=>kernel_rfl
 ·as_aux_lemma=>kernel_rfl
 ·as_aux_lemma=>kernel_rfl
 ·as_aux_lemma=>kernel_rfl
 ·as_aux_lemma=>kernel_rfl
 ·as_aux_lemma=>kernel_rfl
 ·as_aux_lemma=>kernel_rfl
 ·as_aux_lemma=>kernel_rfl
 ·as_aux_lemma=>kernel_rfl
 ·as_aux_lemma=>kernel_rfl
 ·as_aux_lemma=>kernel_rfl
 ·as_aux_lemma=>kernel_rfl
 ·as_aux_lemma=>kernel_rfl
 ·as_aux_lemma=>kernel_rfl
 ·as_aux_lemma=>kernel_rfl
 ·as_aux_lemma=>kernel_rfl
 ·as_aux_lemma=>kernel_rfl
 ·as_aux_lemma=>kernel_rfl
 ·as_aux_lemma=>kernel_rfl
 ·as_aux_lemma=>kernel_rfl
 ·as_aux_lemma=>kernel_rfl
 ·as_aux_lemma=>kernel_rfl
 ·as_aux_lemma=>kernel_rfl
 ·as_aux_lemma=>kernel_rfl
 ·as_aux_lemma=>kernel_rfl
 ·as_aux_lemma=>kernel_rfl
 ·as_aux_lemma=>kernel_rfl
theorem z4e:Rows.fnBlocksRow.holds Try.pinned (OpenSpec.ofChange Rows.fnBlocksSpec) :=
 OpenClaim.holds_of_wide 3 Try.f3 rfl rfl rfl rfl rfl rfl rfl ⟨rfl,rfl,rfl,rfl,rfl⟩ rfl rfl rfl rfl rfl (by kernel_rfl) Try.func3 z10t
  (of_decide_eq_true (by kernel_rfl)) (by unfold Func.isWrapper; first | (rw [if_pos (by decide +kernel)]; kernel_rfl) | (rw [if_neg (by decide +kernel)]; exact ⟨rfl,rfl⟩))
  (fun os started H enc _=>z10s os started H enc)
theorem proved:Rows.FnBlocksSaid:=z4e
end Go.Proofs.Ytogbhjffiglbjaa.fnBlocks
namespace Go.Proofs.Ytogbhjffiglbjaa
/-- The row, under a short name, for the claim. -/
theorem fnBlocks_holds:Rows.FnBlocksSaid:=fnBlocks.proved
#print axioms fnBlocks_holds
end Go.Proofs.Ytogbhjffiglbjaa
