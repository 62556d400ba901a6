/- FnSalvage: whatever the input, the law answers true, and its arguments read as they did. No conditions. -/
import Derived.Test.YtjbnebolfnjneaaGreatDoorRows
import Derived.Test.YtjbnebolfnjneaaGreatDoorPureFnSalvage
import Derived.Handy
import Derived.Lay
import Derived.LaidLaws
import Derived.SevenTiedAt
import Derived.Lib.LaidTab
import Derived.Stop.LaidErr
import Derived.Stop.Joined
import Derived.MakeChecks
import Derived.Test.YtjbnebolfnjneaaGreatDoorTie
import Derived.Test.YtjbnebolfnjneaaGreatDoorCards
import Derived.WalkKit
import Derived.ProofKit
import Derived.OpenShut
import Derived.ShutString
import Derived.ChangeOld
import Derived.Below
import Derived.SizedLaws
set_option linter.unusedVariables false
namespace Go.Proofs.YtjbnebolfnjneaaGreatDoor.fnSalvage
open Go.ChangeShapes Go.WideShapes Go.ChangeAt Go.RowKit Go.Proofs.YtjbnebolfnjneaaGreatDoor.Ev
theorem own:ownKnob Tryz.prog.godebug=none:=by kernel_rfl
theorem zub:laidOutB Tryz.prog=true:=by kernel_rfl
theorem z16k:(Rows.laid_internal_strconv_uint64pow10:DataW Unit)=Lib.tabData .u64 Lib.pow10Tab:=by kernel_rfl
/-- The table that is laid, as the walks read it. -/
theorem z16l {W:World} (h:laidMetH Tryz.prog Rows.fnSalvageRow.laid W):Glob.ok Tryz.prog W:=by
 rw [MakeChecks.laidMetH_plain _ _ _ (by kernel_rfl)] at h
 have h1 : laidMet Tryz.prog [("math/bits.deBruijn32tab", Rows.laid_math_bits_deBruijn32tab), ("math/bits.deBruijn64tab", Rows.laid_math_bits_deBruijn64tab), ("internal/strconv.uint64pow10", Lib.tabData .u64 Lib.pow10Tab), ("unicode/utf8.acceptRanges", Rows.laid_unicode_utf8_acceptRanges), ("unicode/utf8.first", Rows.laid_unicode_utf8_first)] W := by rw [← z16k]; exact h
 exact Lib.tabIs_of_head (g:=1) (t:=138) (e:=49) (by kernel_rfl) (by kernel_rfl) Tryz.underlying138 Tryz.underlying49 (by kernel_rfl) (by kernel_rfl) (laidMet.tail (laidMet.tail h1))
set_option maxRecDepth 100000 in
theorem z16m (os:Os) (started:os.Started) (H:Type) (enc:TypeId×Value→H) :
  ReturnsInHanded {} Tryz.checked os 3 .any (fun w args=>(Rows.fnSalvageSpec.pre enc Tryz.prog Tryz.f3 [] false w args∧laidMetH Tryz.prog Rows.fnSalvageRow.laid w)∧sizedMet enc Tryz.prog Tryz.f3 (OpenSpec.ofChange Rows.fnSalvageSpec) false w args) (Rows.fnSalvageSpec.post enc Tryz.prog Tryz.f3 false true false false):=by
 refine returnsInHanded_of_change_and (C:=Tryz.checked) (X:=fun w _=>laidMetH Tryz.prog Rows.fnSalvageRow.laid w) (fun _ _ _ hh h=>h.of_heap hh) own started (by kernel_rfl) Tryz.func3
  (ChangeSpec.witness_shaped (enc:=enc) (C:=Tryz.checked) (os:=os) (X:=fun w _=>laidMetH Tryz.prog Rows.fnSalvageRow.laid w) false (World.laidAll Tryz.prog os Rows.fnSalvageRow.laid) #[.slice none 0 0,.slice none 0 0] 8 (World.laidAll_os _ _ _)
   (World.shaped_of_ZipB (by kernel_rfl) (by kernel_rfl)) (by kernel_rfl) (by kernel_rfl) (by kernel_rfl)
   (by rw [MakeChecks.laidMetH_plain _ _ _ (by kernel_rfl)]; exact laidMet_laidAll _ (by kernel_rfl) (by kernel_rfl))) ?_
 intro W base args ds gs zm hval0 hW hcnd hsz0 hL _
 have hsz:(DataW.weightsEach Tryz.prog (Tryz.f3.params.toList++Rows.fnSalvageSpec.plain.varTypes Tryz.prog) (ds++gs)).all (·≤reachBytes)=true:=hsz0
 have hval:∀ (j:Nat) t v,Tryz.f3.params[j]?=some t→args[j]?=some v→Value.okWide Tryz.prog W .any base t v:=hval0
 have hW':=hW
 obtain ⟨p,q,hA0,hV,rfl,hfz,hnd⟩:=hW
 have hA:DataW.TrodAll enc Tryz.prog W 0 (fun _=>true) true Tryz.f3.params.toList args.toList ds p:=hA0
 rw [Tryz.params3] at hA hval hsz
 obtain ⟨v0,vs0,d0,ds0,p0,q0,hargs,rfl,rfl,h0,r0⟩:=trodAll_cons hA
 obtain ⟨v1,vs1,d1,ds1,p1,q1,rfl,rfl,rfl,h1,r1⟩:=trodAll_cons r0
 obtain ⟨rfl,rfl,rfl⟩:=trodAll_nil r1
 obtain rfl:args=#[v0,v1]:=by cases args; simp_all
 obtain ⟨rfl,rfl⟩:=trodVars_none hV
 have lt0:∀ x∈p0,x.block<W.heap.size:=by obtain ⟨m,hm⟩:=h0; exact DataW.trod_lt m _ _ _ hm
 obtain ⟨a0,y0,f0⟩:=zow (E:=zq ti [] (fun _=>none) z36 z38) zgi (t:=22) (c:=(.sl 5 (.int .u8))) (by kernel_rfl) (by kernel_rfl) (hval 0 22 v0 rfl rfl) h0 (zox hsz (j:=0) (t:=22) rfl rfl)
 have lt1:∀ x∈p1,x.block<W.heap.size:=by obtain ⟨m,hm⟩:=h1; exact DataW.trod_lt m _ _ _ hm
 obtain ⟨a1,y1,f1⟩:=zow (E:=zq ti [] (fun _=>none) z36 z38) zgi (t:=22) (c:=(.sl 5 (.int .u8))) (by kernel_rfl) (by kernel_rfl) (hval 1 22 v1 rfl rfl) h1 (zox hsz (j:=1) (t:=22) rfl rfl)
 have hG:Glob.ok Tryz.prog W:=z16l hL
 obtain ⟨k,hk⟩:=Pure.FnSalvage a0 a1 f0 f1
 refine (zzl Tryz.func3 (c:=z3p Tryz.f3) (by kernel_rfl) (by kernel_rfl) (z140 k) (hG:=hG) (args:=[⟨(.sl 5 (.int .u8)),a0⟩,⟨(.sl 5 (.int .u8)),a1⟩]) (vs:=#[v0,v1]) (show z6m W [⟨(.sl 5 (.int .u8)),a0⟩,⟨(.sl 5 (.int .u8)),a1⟩] [v0,v1] from ⟨y0,y1,trivial⟩) (x:=(a0,a1)) (by kernel_rfl) hk).mono fun e W' ⟨he,bel⟩=>?_
 subst he
 exact ⟨_,rfl,_,_,_,[],_,[],hW',trodAll_mk1 (shut_bool Tryz.underlying4 _),(trodAll_cons_mk (Below.trod zub (by kernel_rfl) (of_decide_eq_true (by kernel_rfl)) h0 bel lt0) (trodAll_cons_mk (Below.trod zub (by kernel_rfl) (of_decide_eq_true (by kernel_rfl)) h1 bel lt1) trodAll_mk0)),rfl,bel.frame _,fun h=>by cases h⟩
theorem z1o {a b:Bool} (x:a=true) (y:b=true):(a&&b)=true:=by rw [x,y]; rfl
set_option maxRecDepth 100000 in
set_option maxHeartbeats 0 in
/-- The facts one by one: a big type fills the memory when they are taken as one. -/
theorem z16n:joinedFacts Tryz.pinned.checked.prog 3 Tryz.f3 Rows.fnSalvageSpec Rows.fnSalvageRow=true:=by
 unfold joinedFacts
 refine (z1o (z1o (z1o (z1o (z1o (z1o (z1o (z1o (z1o (z1o (z1o (z1o (z1o (z1o (z1o (z1o (z1o (z1o (z1o (z1o (z1o (z1o (z1o (z1o (z1o (z1o (z1o (z1o (z1o (z1o (z1o ?_ ?_) ?_) ?_) ?_) ?_) ?_) ?_) ?_) ?_) ?_) ?_) ?_) ?_) ?_) ?_) ?_) ?_) ?_) ?_) ?_) ?_) ?_) ?_) ?_) ?_) ?_) ?_) ?_) ?_) ?_) ?_)
 ·as_aux_lemma=>kernel_rfl
 ·as_aux_lemma=>kernel_rfl
 ·as_aux_lemma=>kernel_rfl
 ·as_aux_lemma=>kernel_rfl
 ·as_aux_lemma=>kernel_rfl
 ·as_aux_lemma=>kernel_rfl
 ·as_aux_lemma=>kernel_rfl
 ·as_aux_lemma=>kernel_rfl
 ·as_aux_lemma=>kernel_rfl
 ·as_aux_lemma=>kernel_rfl
 ·as_aux_lemma=>kernel_rfl
 ·as_aux_lemma=>kernel_rfl
 ·as_aux_lemma=>kernel_rfl
 ·as_aux_lemma=>kernel_rfl
 ·as_aux_lemma=>kernel_rfl
 ·as_aux_lemma=>kernel_rfl
 ·as_aux_lemma=>kernel_rfl
 ·as_aux_lemma=>kernel_rfl
 ·as_aux_lemma=>kernel_rfl
 ·as_aux_lemma=>kernel_rfl
 ·as_aux_lemma=>kernel_rfl
 ·as_aux_lemma=>kernel_rfl
 ·as_aux_lemma=>kernel_rfl
 ·as_aux_lemma=>kernel_rfl
 ·as_aux_lemma=>kernel_rfl
 ·as_aux_lemma=>kernel_rfl
 ·as_aux_lemma=>kernel_rfl
 ·as_aux_lemma=>kernel_rfl
 ·as_aux_lemma=>kernel_rfl
 ·as_aux_lemma=>kernel_rfl
 ·as_aux_lemma=>kernel_rfl
 ·as_aux_lemma=>kernel_rfl
theorem z4r:Rows.fnSalvageRow.holds Tryz.pinned (OpenSpec.ofChange Rows.fnSalvageSpec) :=
 OpenClaim.holds_of_wide 3 Tryz.f3 rfl rfl rfl rfl rfl rfl rfl ⟨rfl,rfl,rfl,rfl,rfl⟩ rfl rfl rfl rfl rfl (by kernel_rfl) Tryz.func3 z16n
  (of_decide_eq_true (by kernel_rfl)) (by unfold Func.isWrapper; first | (rw [if_pos (by decide +kernel)]; kernel_rfl) | (rw [if_neg (by decide +kernel)]; exact ⟨rfl,rfl⟩))
  (fun os started H enc _=>z16m os started H enc)
theorem card:Rows.FnSalvageCardSaid :=
 Claim7.holds_tied_plain_at .later [] [.data, .data, .data, .data, .pinned] true (true, "1c21aa94f130cd4b3557f910165249a45e523cbf22a4bf3603a993a63648b309") false z4r (fun _ h => by cases h) (by kernel_rfl) (fun _ h => by cases h) fnSalvage_row_tie rfl ⟨rfl, rfl⟩ (by kernel_rfl) rfl
  (fun f fn hf hfn=>by
   obtain rfl : f = 3 := Option.some.inj ((show Tryz.prog.funcNamed "loop.example/g01005/laws.FnSalvage" = some 3 by kernel_rfl).symm.trans hf) |>.symm
   obtain rfl:fn=Tryz.f3:=(Option.some.inj (Tryz.func3.symm.trans hfn)).symm
   exact ⟨by kernel_rfl,fun j t ht=>by
    rw [Tryz.params3] at ht
    have hm:t∈[22,22]:=by simpa using Array.mem_of_getElem? ht
    have hall:([22,22].all fun u=>!Tryz.prog.wantsStandIn u)=true:=by kernel_rfl
    exact (show Tryz.prog.wantsStandIn t=false by simpa using List.all_eq_true.1 hall t hm)⟩)
  (by kernel_rfl)
end Go.Proofs.YtjbnebolfnjneaaGreatDoor.fnSalvage
namespace Go.Proofs.YtjbnebolfnjneaaGreatDoor
/-- The card, under a short name, for the claim. -/
theorem fnSalvage_card_holds:Rows.FnSalvageCardSaid:=fnSalvage.card
#print axioms fnSalvage_card_holds
end Go.Proofs.YtjbnebolfnjneaaGreatDoor
