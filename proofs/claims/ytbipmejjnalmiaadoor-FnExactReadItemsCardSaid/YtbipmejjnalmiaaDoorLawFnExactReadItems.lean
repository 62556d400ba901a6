/- FnExactReadItems: whatever the input, the law answers true, and its arguments read as they did. No conditions. -/
import Derived.Test.YtbipmejjnalmiaaDoorRows
import Derived.Test.YtbipmejjnalmiaaDoorPureFnExactReadItems
import Derived.Handy
import Derived.Lay
import Derived.LaidLaws
import Derived.SevenTiedAt
import Derived.Lib.LaidTab
import Derived.Stop.LaidErr
import Derived.Stop.Joined
import Derived.MakeChecks
import Derived.Test.YtbipmejjnalmiaaDoorTie
import Derived.Test.YtbipmejjnalmiaaDoorCards
import Derived.WalkKit
import Derived.ProofKit
import Derived.OpenShut
import Derived.ShutString
import Derived.ChangeOld
import Derived.Below
import Derived.SizedLaws
set_option linter.unusedVariables false
namespace Go.Proofs.YtbipmejjnalmiaaDoor.fnExactReadItems
open Go.ChangeShapes Go.WideShapes Go.ChangeAt Go.RowKit Go.Proofs.YtbipmejjnalmiaaDoor.Ev
theorem own:ownKnob Tryd.prog.godebug=none:=by kernel_rfl
theorem z10d:laidOutB Tryd.prog=true:=by kernel_rfl
theorem z10e:(Rows.laid_internal_strconv_uint64pow10:DataW Unit)=Lib.tabData .u64 Lib.pow10Tab:=by kernel_rfl
theorem zq6 : "*" ++ "errors.errorString" = "*errors.errorString" := by decide
theorem zq7 (u : TypeId) (h : Tryd.prog.typeName? 3 u = some "*errors.errorString") : u = 111 :=
 typeName_ptr_named (nm := "errors.errorString") (by rw [zq6]; kernel_rfl) (by kernel_rfl) (by decide) u (by rw [zq6]; exact h)
/-- The table that is laid, as the walks read it. -/
theorem z10f {W:World} (h:laidMetH Tryd.prog Rows.fnExactReadItemsRow.laid W):Glob.ok Tryd.prog W:=by
 rw [MakeChecks.laidMetH_plain _ _ _ (by kernel_rfl)] at h
 have h1 : laidMet Tryd.prog [("math/bits.deBruijn32tab", Rows.laid_math_bits_deBruijn32tab), ("math/bits.deBruijn64tab", Rows.laid_math_bits_deBruijn64tab), ("internal/strconv.uint64pow10", Lib.tabData .u64 Lib.pow10Tab), ("unicode/utf8.acceptRanges", Rows.laid_unicode_utf8_acceptRanges), ("strconv.ErrRange", Rows.laid_strconv_ErrRange), ("strconv.ErrSyntax", Rows.laid_strconv_ErrSyntax), ("unicode/utf8.first", Rows.laid_unicode_utf8_first)] W := by rw [← z10e]; exact h
 refine ⟨ Lib.tabIs_of_head (g:=5) (t:=115) (e:=82) (by kernel_rfl) (by kernel_rfl) Tryd.underlying115 Tryd.underlying82 (by kernel_rfl) (by kernel_rfl) (laidMet.tail (laidMet.tail h1)),fun n hn=>?_⟩
 have hn : n = "strconv.ErrSyntax" ∨ n = "strconv.ErrRange" := by simpa using hn
 rcases hn with rfl | rfl
 ·obtain ⟨a,s,hv,_⟩:=laid_sentinel (g:=1) (laidMet.tail (laidMet.tail (laidMet.tail (laidMet.tail (laidMet.tail h))))) (by kernel_rfl) (by kernel_rfl) Tryd.underlying44 zq7 Tryd.underlying111 Tryd.underlying113 rfl rfl Tryd.underlying9 (by kernel_rfl) (by kernel_rfl)
  exact ⟨_,_,hv⟩
 ·obtain ⟨a,s,hv,_⟩:=laid_sentinel (g:=2) (laidMet.tail (laidMet.tail (laidMet.tail (laidMet.tail h)))) (by kernel_rfl) (by kernel_rfl) Tryd.underlying44 zq7 Tryd.underlying111 Tryd.underlying113 rfl rfl Tryd.underlying9 (by kernel_rfl) (by kernel_rfl)
  exact ⟨_,_,hv⟩
set_option maxRecDepth 100000 in
theorem z10g (os:Os) (started:os.Started) (H:Type) (enc:TypeId×Value→H) :
  ReturnsInHanded {} Tryd.checked os 3 .any (fun w args=>(Rows.fnExactReadItemsSpec.pre enc Tryd.prog Tryd.f3 [] false w args∧laidMetH Tryd.prog Rows.fnExactReadItemsRow.laid w)∧sizedMet enc Tryd.prog Tryd.f3 (OpenSpec.ofChange Rows.fnExactReadItemsSpec) false w args) (Rows.fnExactReadItemsSpec.post enc Tryd.prog Tryd.f3 false true false false):=by
 refine returnsInHanded_of_change_and (C:=Tryd.checked) (X:=fun w _=>laidMetH Tryd.prog Rows.fnExactReadItemsRow.laid w) (fun _ _ _ hh h=>h.of_heap hh) own started (by kernel_rfl) Tryd.func3
  (ChangeSpec.witness_shaped (enc:=enc) (C:=Tryd.checked) (os:=os) (X:=fun w _=>laidMetH Tryd.prog Rows.fnExactReadItemsRow.laid w) false (World.laidAll Tryd.prog os Rows.fnExactReadItemsRow.laid) #[.string ByteArray.empty] 8 (World.laidAll_os _ _ _)
   (World.shaped_of_ZipB (by kernel_rfl) (by kernel_rfl)) (by kernel_rfl) (by kernel_rfl) (by kernel_rfl)
   (by rw [MakeChecks.laidMetH_plain _ _ _ (by kernel_rfl)]; exact laidMet_laidAll _ (by kernel_rfl) (by kernel_rfl))) ?_
 intro W base args ds gs before hval0 hW hcnd hsz0 hL _
 have hsz:(DataW.weightsEach Tryd.prog (Tryd.f3.params.toList++Rows.fnExactReadItemsSpec.plain.varTypes Tryd.prog) (ds++gs)).all (·≤reachBytes)=true:=hsz0
 have hval:∀ (j:Nat) t v,Tryd.f3.params[j]?=some t→args[j]?=some v→Value.okWide Tryd.prog W .any base t v:=hval0
 have hW':=hW
 obtain ⟨p,q,hA0,hV,rfl,hfz,hnd⟩:=hW
 have hA:DataW.TrodAll enc Tryd.prog W 0 (fun _=>true) true Tryd.f3.params.toList args.toList ds p:=hA0
 rw [Tryd.params3] at hA hval hsz
 obtain ⟨v0,vs0,d0,ds0,p0,q0,hargs,rfl,rfl,h0,r0⟩:=trodAll_cons hA
 obtain ⟨rfl,rfl,rfl⟩:=trodAll_nil r0
 obtain rfl:args=#[v0]:=by cases args; simp_all
 obtain ⟨rfl,rfl⟩:=trodVars_none hV
 have lt0:∀ x∈p0,x.block<W.heap.size:=by obtain ⟨m,hm⟩:=h0; exact DataW.trod_lt m _ _ _ hm
 obtain ⟨a0,y0,f0⟩:=zvh (E:=zq ti [] (fun _=>none) z39 z3a) zms (t:=9) (c:=.str) (by kernel_rfl) (by kernel_rfl) (hval 0 9 v0 rfl rfl) h0 (zvi hsz (j:=0) (t:=9) rfl rfl)
 have hG:Glob.ok Tryd.prog W:=z10f hL
 obtain ⟨k,hk⟩:=Pure.FnExactReadItems a0 f0
 refine (zvj Tryd.func3 (c:=z2x Tryd.f3) (by kernel_rfl) (by kernel_rfl) (zym k) (hG:=hG) (args:=[⟨.str,a0⟩]) (vs:=#[v0]) (show z62 W [⟨.str,a0⟩] [v0] from ⟨y0,trivial⟩) (x:=a0) (by kernel_rfl) hk).mono fun e W' ⟨he,bel⟩=>?_
 subst he
 exact ⟨_,rfl,_,_,_,[],_,[],hW',trodAll_mk1 (shut_bool Tryd.underlying4 _),(trodAll_cons_mk (Below.trod z10d (by kernel_rfl) (of_decide_eq_true (by kernel_rfl)) h0 bel lt0) trodAll_mk0),rfl,bel.frame _,fun h=>by cases h⟩
theorem z1i {a b:Bool} (x:a=true) (y:b=true):(a&&b)=true:=by rw [x,y]; rfl
set_option maxRecDepth 100000 in
set_option maxHeartbeats 0 in
/-- The facts one by one: a big type fills the memory when they are taken as one. -/
theorem z10h:joinedFacts Tryd.pinned.checked.prog 3 Tryd.f3 Rows.fnExactReadItemsSpec Rows.fnExactReadItemsRow=true:=by
 unfold joinedFacts
 refine (z1i (z1i (z1i (z1i (z1i (z1i (z1i (z1i (z1i (z1i (z1i (z1i (z1i (z1i (z1i (z1i (z1i (z1i (z1i (z1i (z1i (z1i (z1i (z1i (z1i (z1i (z1i (z1i (z1i (z1i (z1i ?_ ?_) ?_) ?_) ?_) ?_) ?_) ?_) ?_) ?_) ?_) ?_) ?_) ?_) ?_) ?_) ?_) ?_) ?_) ?_) ?_) ?_) ?_) ?_) ?_) ?_) ?_) ?_) ?_) ?_) ?_) ?_)
 ·as_aux_lemma=>kernel_rfl
 ·as_aux_lemma=>kernel_rfl
 ·as_aux_lemma=>kernel_rfl
 ·as_aux_lemma=>kernel_rfl
 ·as_aux_lemma=>kernel_rfl
 ·as_aux_lemma=>kernel_rfl
 ·as_aux_lemma=>kernel_rfl
 ·as_aux_lemma=>kernel_rfl
 ·as_aux_lemma=>kernel_rfl
 ·as_aux_lemma=>kernel_rfl
 ·as_aux_lemma=>kernel_rfl
 ·as_aux_lemma=>kernel_rfl
 ·as_aux_lemma=>kernel_rfl
 ·as_aux_lemma=>kernel_rfl
 ·as_aux_lemma=>kernel_rfl
 ·as_aux_lemma=>kernel_rfl
 ·as_aux_lemma=>kernel_rfl
 ·as_aux_lemma=>kernel_rfl
 ·as_aux_lemma=>kernel_rfl
 ·as_aux_lemma=>kernel_rfl
 ·as_aux_lemma=>kernel_rfl
 ·as_aux_lemma=>kernel_rfl
 ·as_aux_lemma=>kernel_rfl
 ·as_aux_lemma=>kernel_rfl
 ·as_aux_lemma=>kernel_rfl
 ·as_aux_lemma=>kernel_rfl
 ·as_aux_lemma=>kernel_rfl
 ·as_aux_lemma=>kernel_rfl
 ·as_aux_lemma=>kernel_rfl
 ·as_aux_lemma=>kernel_rfl
 ·as_aux_lemma=>kernel_rfl
 ·as_aux_lemma=>kernel_rfl
theorem z49:Rows.fnExactReadItemsRow.holds Tryd.pinned (OpenSpec.ofChange Rows.fnExactReadItemsSpec) :=
 OpenClaim.holds_of_wide 3 Tryd.f3 rfl rfl rfl rfl rfl rfl rfl ⟨rfl,rfl,rfl,rfl,rfl⟩ rfl rfl rfl rfl rfl (by kernel_rfl) Tryd.func3 z10h
  (of_decide_eq_true (by kernel_rfl)) (by unfold Func.isWrapper; first | (rw [if_pos (by decide +kernel)]; kernel_rfl) | (rw [if_neg (by decide +kernel)]; exact ⟨rfl,rfl⟩))
  (fun os started H enc _=>z10g os started H enc)
theorem card:Rows.FnExactReadItemsCardSaid :=
 Claim7.holds_tied_plain_at .later [] [.data, .data, .data, .data, .sentinel, .sentinel, .pinned] true (true, "c5fe02bf196068364a4bf176150c0d3a558369633ecd10c682ed7c8982bb9da4") true z49 (fun _ h => by cases h) (by kernel_rfl) (fun _ h => by cases h) fnExactReadItems_row_tie rfl ⟨rfl, rfl⟩ (by kernel_rfl) rfl
  (fun f fn hf hfn=>by
   obtain rfl : f = 3 := Option.some.inj ((show Tryd.prog.funcNamed "loop.example/g01005/laws.FnExactReadItems" = some 3 by kernel_rfl).symm.trans hf) |>.symm
   obtain rfl:fn=Tryd.f3:=(Option.some.inj (Tryd.func3.symm.trans hfn)).symm
   exact ⟨by kernel_rfl,fun j t ht=>by
    rw [Tryd.params3] at ht
    have hm:t∈[9]:=by simpa using Array.mem_of_getElem? ht
    have hall:([9].all fun u=>!Tryd.prog.wantsStandIn u)=true:=by kernel_rfl
    exact (show Tryd.prog.wantsStandIn t=false by simpa using List.all_eq_true.1 hall t hm)⟩)
  (by kernel_rfl)
end Go.Proofs.YtbipmejjnalmiaaDoor.fnExactReadItems
namespace Go.Proofs.YtbipmejjnalmiaaDoor
/-- The card, under a short name, for the claim. -/
theorem fnExactReadItems_card_holds:Rows.FnExactReadItemsCardSaid:=fnExactReadItems.card
#print axioms fnExactReadItems_card_holds
end Go.Proofs.YtbipmejjnalmiaaDoor
