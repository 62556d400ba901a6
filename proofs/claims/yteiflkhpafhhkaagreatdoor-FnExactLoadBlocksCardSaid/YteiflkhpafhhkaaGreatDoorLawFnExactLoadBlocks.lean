/- FnExactLoadBlocks: whatever the input, the law answers true, and its arguments read as they did. No conditions. -/
import Derived.Test.YteiflkhpafhhkaaGreatDoorRows
import Derived.Test.YteiflkhpafhhkaaGreatDoorPureFnExactLoadBlocks
import Derived.Handy
import Derived.Lay
import Derived.LaidLaws
import Derived.SevenTiedAt
import Derived.Lib.LaidTab
import Derived.Stop.LaidErr
import Derived.Stop.Joined
import Derived.MakeChecks
import Derived.Test.YteiflkhpafhhkaaGreatDoorTie
import Derived.Test.YteiflkhpafhhkaaGreatDoorCards
import Derived.WalkKit
import Derived.ProofKit
import Derived.OpenShut
import Derived.ShutString
import Derived.ChangeOld
import Derived.Below
import Derived.SizedLaws
set_option linter.unusedVariables false
namespace Go.Proofs.YteiflkhpafhhkaaGreatDoor.fnExactLoadBlocks
open Go.ChangeShapes Go.WideShapes Go.ChangeAt Go.RowKit Go.Proofs.YteiflkhpafhhkaaGreatDoor.Ev
theorem own:ownKnob Tryz.prog.godebug=none:=by kernel_rfl
theorem zyy:laidOutB Tryz.prog=true:=by kernel_rfl
theorem zyz:(Rows.laid_internal_strconv_uint64pow10:DataW Unit)=Lib.tabData .u64 Lib.pow10Tab:=by kernel_rfl
theorem zp4 : "*" ++ "errors.errorString" = "*errors.errorString" := by decide
theorem zp5 (u : TypeId) (h : Tryz.prog.typeName? 3 u = some "*errors.errorString") : u = 117 :=
 typeName_ptr_named (nm := "errors.errorString") (by rw [zp4]; kernel_rfl) (by kernel_rfl) (by decide) u (by rw [zp4]; exact h)
/-- The table that is laid, as the walks read it. -/
theorem zz0 {W:World} (h:laidMetH Tryz.prog Rows.fnExactLoadBlocksRow.laid W):Glob.ok Tryz.prog W:=by
 rw [MakeChecks.laidMetH_plain _ _ _ (by kernel_rfl)] at h
 have h1 : laidMet Tryz.prog [("math/bits.deBruijn32tab", Rows.laid_math_bits_deBruijn32tab), ("math/bits.deBruijn64tab", Rows.laid_math_bits_deBruijn64tab), ("internal/strconv.uint64pow10", Lib.tabData .u64 Lib.pow10Tab), ("unicode/utf8.acceptRanges", Rows.laid_unicode_utf8_acceptRanges), ("strconv.ErrRange", Rows.laid_strconv_ErrRange), ("strconv.ErrSyntax", Rows.laid_strconv_ErrSyntax), ("unicode/utf8.first", Rows.laid_unicode_utf8_first)] W := by rw [← zyz]; exact h
 refine ⟨ Lib.tabIs_of_head (g:=2) (t:=110) (e:=82) (by kernel_rfl) (by kernel_rfl) Tryz.underlying110 Tryz.underlying82 (by kernel_rfl) (by kernel_rfl) (laidMet.tail (laidMet.tail h1)),fun n hn=>?_⟩
 have hn : n = "strconv.ErrSyntax" ∨ n = "strconv.ErrRange" := by simpa using hn
 rcases hn with rfl | rfl
 ·obtain ⟨a,s,hv,_⟩:=laid_sentinel (g:=0) (laidMet.tail (laidMet.tail (laidMet.tail (laidMet.tail (laidMet.tail h))))) (by kernel_rfl) (by kernel_rfl) Tryz.underlying53 zp5 Tryz.underlying117 Tryz.underlying119 rfl rfl Tryz.underlying9 (by kernel_rfl) (by kernel_rfl)
  exact ⟨_,_,hv⟩
 ·obtain ⟨a,s,hv,_⟩:=laid_sentinel (g:=1) (laidMet.tail (laidMet.tail (laidMet.tail (laidMet.tail h)))) (by kernel_rfl) (by kernel_rfl) Tryz.underlying53 zp5 Tryz.underlying117 Tryz.underlying119 rfl rfl Tryz.underlying9 (by kernel_rfl) (by kernel_rfl)
  exact ⟨_,_,hv⟩
set_option maxRecDepth 100000 in
theorem zz1 (os:Os) (started:os.Started) (H:Type) (enc:TypeId×Value→H) :
  ReturnsInHanded {} Tryz.checked os 3 .any (fun w args=>(Rows.fnExactLoadBlocksSpec.pre enc Tryz.prog Tryz.f3 [] false w args∧laidMetH Tryz.prog Rows.fnExactLoadBlocksRow.laid w)∧sizedMet enc Tryz.prog Tryz.f3 (OpenSpec.ofChange Rows.fnExactLoadBlocksSpec) false w args) (Rows.fnExactLoadBlocksSpec.post enc Tryz.prog Tryz.f3 false true false false):=by
 refine returnsInHanded_of_change_and (C:=Tryz.checked) (X:=fun w _=>laidMetH Tryz.prog Rows.fnExactLoadBlocksRow.laid w) (fun _ _ _ hh h=>h.of_heap hh) own started (by kernel_rfl) Tryz.func3
  (ChangeSpec.witness_shaped (enc:=enc) (C:=Tryz.checked) (os:=os) (X:=fun w _=>laidMetH Tryz.prog Rows.fnExactLoadBlocksRow.laid w) false (World.laidAll Tryz.prog os Rows.fnExactLoadBlocksRow.laid) #[.string ByteArray.empty] 8 (World.laidAll_os _ _ _)
   (World.shaped_of_ZipB (by kernel_rfl) (by kernel_rfl)) (by kernel_rfl) (by kernel_rfl) (by kernel_rfl)
   (by rw [MakeChecks.laidMetH_plain _ _ _ (by kernel_rfl)]; exact laidMet_laidAll _ (by kernel_rfl) (by kernel_rfl))) ?_
 intro W base args ds gs z3h hval0 hW hcnd hsz0 hL _
 have hsz:(DataW.weightsEach Tryz.prog (Tryz.f3.params.toList++Rows.fnExactLoadBlocksSpec.plain.varTypes Tryz.prog) (ds++gs)).all (·≤reachBytes)=true:=hsz0
 have hval:∀ (j:Nat) t v,Tryz.f3.params[j]?=some t→args[j]?=some v→Value.okWide Tryz.prog W .any base t v:=hval0
 have hW':=hW
 obtain ⟨p,q,hA0,hV,rfl,hfz,hnd⟩:=hW
 have hA:DataW.TrodAll enc Tryz.prog W 0 (fun _=>true) true Tryz.f3.params.toList args.toList ds p:=hA0
 rw [Tryz.params3] at hA hval hsz
 obtain ⟨v0,vs0,d0,ds0,p0,q0,hargs,rfl,rfl,h0,r0⟩:=trodAll_cons hA
 obtain ⟨rfl,rfl,rfl⟩:=trodAll_nil r0
 obtain rfl:args=#[v0]:=by cases args; simp_all
 obtain ⟨rfl,rfl⟩:=trodVars_none hV
 have lt0:∀ x∈p0,x.block<W.heap.size:=by obtain ⟨m,hm⟩:=h0; exact DataW.trod_lt m _ _ _ hm
 obtain ⟨a0,y0,f0⟩:=zue (E:=zq ti [] (fun _=>none) z36 z38) zm8 (t:=9) (c:=.str) (by kernel_rfl) (by kernel_rfl) (hval 0 9 v0 rfl rfl) h0 (zuf hsz (j:=0) (t:=9) rfl rfl)
 have hG:Glob.ok Tryz.prog W:=zz0 hL
 obtain ⟨k,hk⟩:=Pure.FnExactLoadBlocks a0 f0
 refine (zug Tryz.func3 (c:=z2x Tryz.f3) (by kernel_rfl) (by kernel_rfl) (zxj k) (hG:=hG) (args:=[⟨.str,a0⟩]) (vs:=#[v0]) (show z5z W [⟨.str,a0⟩] [v0] from ⟨y0,trivial⟩) (x:=a0) (by kernel_rfl) hk).mono fun e W' ⟨he,bel⟩=>?_
 subst he
 exact ⟨_,rfl,_,_,_,[],_,[],hW',trodAll_mk1 (shut_bool Tryz.underlying4 _),(trodAll_cons_mk (Below.trod zyy (by kernel_rfl) (of_decide_eq_true (by kernel_rfl)) h0 bel lt0) trodAll_mk0),rfl,bel.frame _,fun h=>by cases h⟩
theorem z1f {a b:Bool} (x:a=true) (y:b=true):(a&&b)=true:=by rw [x,y]; rfl
set_option maxRecDepth 100000 in
set_option maxHeartbeats 0 in
/-- The facts one by one: a big type fills the memory when they are taken as one. -/
theorem zz2:joinedFacts Tryz.pinned.checked.prog 3 Tryz.f3 Rows.fnExactLoadBlocksSpec Rows.fnExactLoadBlocksRow=true:=by
 unfold joinedFacts
 refine (z1f (z1f (z1f (z1f (z1f (z1f (z1f (z1f (z1f (z1f (z1f (z1f (z1f (z1f (z1f (z1f (z1f (z1f (z1f (z1f (z1f (z1f (z1f (z1f (z1f (z1f (z1f (z1f (z1f (z1f (z1f ?_ ?_) ?_) ?_) ?_) ?_) ?_) ?_) ?_) ?_) ?_) ?_) ?_) ?_) ?_) ?_) ?_) ?_) ?_) ?_) ?_) ?_) ?_) ?_) ?_) ?_) ?_) ?_) ?_) ?_) ?_) ?_)
 ·as_aux_lemma=>kernel_rfl
 ·as_aux_lemma=>kernel_rfl
 ·as_aux_lemma=>kernel_rfl
 ·as_aux_lemma=>kernel_rfl
 ·as_aux_lemma=>kernel_rfl
 ·as_aux_lemma=>kernel_rfl
 ·as_aux_lemma=>kernel_rfl
 ·as_aux_lemma=>kernel_rfl
 ·as_aux_lemma=>kernel_rfl
 ·as_aux_lemma=>kernel_rfl
 ·as_aux_lemma=>kernel_rfl
 ·as_aux_lemma=>kernel_rfl
 ·as_aux_lemma=>kernel_rfl
 ·as_aux_lemma=>kernel_rfl
 ·as_aux_lemma=>kernel_rfl
 ·as_aux_lemma=>kernel_rfl
 ·as_aux_lemma=>kernel_rfl
 ·as_aux_lemma=>kernel_rfl
 ·as_aux_lemma=>kernel_rfl
 ·as_aux_lemma=>kernel_rfl
 ·as_aux_lemma=>kernel_rfl
 ·as_aux_lemma=>kernel_rfl
 ·as_aux_lemma=>kernel_rfl
 ·as_aux_lemma=>kernel_rfl
 ·as_aux_lemma=>kernel_rfl
 ·as_aux_lemma=>kernel_rfl
 ·as_aux_lemma=>kernel_rfl
 ·as_aux_lemma=>kernel_rfl
 ·as_aux_lemma=>kernel_rfl
 ·as_aux_lemma=>kernel_rfl
 ·as_aux_lemma=>kernel_rfl
 ·as_aux_lemma=>kernel_rfl
theorem z49:Rows.fnExactLoadBlocksRow.holds Tryz.pinned (OpenSpec.ofChange Rows.fnExactLoadBlocksSpec) :=
 OpenClaim.holds_of_wide 3 Tryz.f3 rfl rfl rfl rfl rfl rfl rfl ⟨rfl,rfl,rfl,rfl,rfl⟩ rfl rfl rfl rfl rfl (by kernel_rfl) Tryz.func3 zz2
  (of_decide_eq_true (by kernel_rfl)) (by unfold Func.isWrapper; first | (rw [if_pos (by decide +kernel)]; kernel_rfl) | (rw [if_neg (by decide +kernel)]; exact ⟨rfl,rfl⟩))
  (fun os started H enc _=>zz1 os started H enc)
theorem card:Rows.FnExactLoadBlocksCardSaid :=
 Claim7.holds_tied_plain_at .later [] [.data, .data, .data, .data, .sentinel, .sentinel, .pinned] true (true, "ef7469b989a8dfb63f45a22342188d86fe9c615a20277cfe87e812d4c842b46a") true z49 (fun _ h => by cases h) (by kernel_rfl) (fun _ h => by cases h) fnExactLoadBlocks_row_tie rfl ⟨rfl, rfl⟩ (by kernel_rfl) rfl
  (fun f fn hf hfn=>by
   obtain rfl : f = 3 := Option.some.inj ((show Tryz.prog.funcNamed "loop.example/g01005/laws.FnExactLoadBlocks" = some 3 by kernel_rfl).symm.trans hf) |>.symm
   obtain rfl:fn=Tryz.f3:=(Option.some.inj (Tryz.func3.symm.trans hfn)).symm
   exact ⟨by kernel_rfl,fun j t ht=>by
    rw [Tryz.params3] at ht
    have hm:t∈[9]:=by simpa using Array.mem_of_getElem? ht
    have hall:([9].all fun u=>!Tryz.prog.wantsStandIn u)=true:=by kernel_rfl
    exact (show Tryz.prog.wantsStandIn t=false by simpa using List.all_eq_true.1 hall t hm)⟩)
  (by kernel_rfl)
end Go.Proofs.YteiflkhpafhhkaaGreatDoor.fnExactLoadBlocks
namespace Go.Proofs.YteiflkhpafhhkaaGreatDoor
/-- The card, under a short name, for the claim. -/
theorem fnExactLoadBlocks_card_holds:Rows.FnExactLoadBlocksCardSaid:=fnExactLoadBlocks.card
#print axioms fnExactLoadBlocks_card_holds
end Go.Proofs.YteiflkhpafhhkaaGreatDoor
