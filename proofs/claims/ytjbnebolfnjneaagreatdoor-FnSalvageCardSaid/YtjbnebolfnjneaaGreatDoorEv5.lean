/- Plain values for a program that runs on a machine: an evaluator of loaded code and the proof that it tells what the machine does (part 5 of 7). No conditions: definitions and lemmas z4r any program. -/
import Derived.Test.YtjbnebolfnjneaaGreatDoorEv4
import Derived.Deep.LoopGhost
set_option linter.unusedVariables false
set_option linter.unusedSimpArgs false
/- A region that draws its order: whole. Over any program. -/
namespace Go.Proofs.YtjbnebolfnjneaaGreatDoor.Ev
open Go.RowKit

theorem zdf:∀ (n:Nat) (l:List Nat),l.Nodup→(∀ x∈l,x<n)→l.length≤n
 | 0,l,_,h=>by
  cases l with
  | nil=>exact Nat.le_refl _
  | cons a l=>exact absurd (h a (by simp)) (Nat.not_lt_zero _)
 | n+1,l,hn,h=>by
  have h1:=zdf n (l.erase n) (hn.erase n) (fun x hx=>by
   have:=(hn.mem_erase_iff).1 hx
   have h2:=h x this.2
   have:=this.1
   omega)
  by_cases hm:n∈l
  ·rw [List.length_erase_of_mem hm] at h1; omega
  ·rw [List.erase_of_not_mem hm] at h1; omega
theorem zjg:∀ {l:List Nat},l.Nodup→∀ {i j:Nat} (hi:i<l.length) (hj:j<l.length),l[i]=l[j]→i=j
 | [],_,i,j,hi,_,_=>by simp at hi
 | a::l,hn,0,0,_,_,_=>rfl
 | a::l,hn,0,j+1,hi,hj,h=>by
  have h1:=(List.nodup_cons.1 hn).1
  simp only [List.getElem_cons_zero,List.getElem_cons_succ] at h
  exact absurd (h▸List.getElem_mem _) h1
 | a::l,hn,i+1,0,hi,hj,h=>by
  have h1:=(List.nodup_cons.1 hn).1
  simp only [List.getElem_cons_zero,List.getElem_cons_succ] at h
  exact absurd (h▸List.getElem_mem _) h1
 | a::l,hn,i+1,j+1,hi,hj,h=>by
  have h2:=(List.nodup_cons.1 hn).2
  simp only [List.getElem_cons_succ] at h
  rw [zjg h2 (by simpa using hi) (by simpa using hj) h]
theorem zxu {D:Nat→Prop}:∀ t,¬ D t→∃ s,s≤t∧¬ D s∧∀ u,u<s→D u:=by
 intro t
 induction t using Nat.strongRecOn with
 | _ t ih =>
  intro ht
  by_cases h:∀ u,u<t→D u
  ·exact ⟨t,Nat.le_refl _,ht,h⟩
  ·have:∃ u,u<t∧¬ D u:=Classical.byContradiction fun hne=>h fun u hu=>Classical.byContradiction fun hd=>hne ⟨u,hu,hd⟩
   obtain ⟨u,hu,hd⟩:=this
   obtain ⟨s,h1,h2,h3⟩:=ih u hu hd
   exact ⟨s,by omega,h2,h3⟩

theorem z8j {all:List Oper} {L:Array Bool} {i:Nat}:i∈Region.ready .any all.toArray L↔i<all.length∧L.getD i true=false∧∀ o,all[i]?=some o→∀ e∈o.after.toList,Region.binds .any e=true→L.getD e.on false=true:=by
 unfold Region.ready
 rw [List.mem_filter,List.mem_range]
 simp only [List.size_toArray,Bool.and_eq_true,Bool.not_eq_true']
 refine and_congr_right fun hi=>and_congr_right fun _=>?_
 have ho:all.toArray[i]?=some all[i]:=by simp [hi]
 rw [ho]
 simp only [Option.map_some,Option.getD_some]
 constructor
 ·intro h o ho' e he hb
  rw [List.getElem?_eq_getElem hi] at ho'
  cases ho'
  have:=Array.all_eq_true_iff_forall_mem.1 h e (Array.mem_toList_iff.1 he)
  rw [hb] at this
  simpa using this
 ·intro h
  refine Array.all_eq_true_iff_forall_mem.2 fun e he=>?_
  cases hb:Region.binds .any e with
  | false=>rfl
  | true =>
   have:=h all[i] (List.getElem?_eq_getElem hi) e (Array.mem_toList_iff.2 he) hb
   rw [this]; rfl
theorem z7i {L:Array Bool} {i:Nat} (h:i<L.size):L.getD i true=L.getD i false:=by
 simp [Array.getD_eq_getD_getElem?,h]
theorem zjh {L:Array Bool} {i t:Nat} (h:i<L.size):(L.setIfInBounds i true).getD t false=true↔t=i∨L.getD t false=true:=by
 simp only [Array.getD_eq_getD_getElem?]
 by_cases hti:i=t
 ·subst hti; simp [h]
 ·rw [Array.getElem?_setIfInBounds_ne hti]
  constructor
  ·exact fun h=>.inr h
  ·rintro (h | h)
   ·exact absurd h.symm hti
   ·exact h

section
variable {P : Program} {E : Env} {w0 : World} {ok O : Nat → Prop} {σ σ' : St} {tm : Array Value} {w w' : World} {M : Map} {a : Act}

abbrev ZOK (all:List Oper) (m:Nat) (Z:List Nat) (t:Nat):Prop:=Region.noSelect all.toArray=true∧(∃ o,all[t]?=some o∧(z5y o=true∨t<m∧(z91 o=true∨z4v o=true))∧(t<m→∀ e∈o.after.toList,Region.binds .any e=true→e.on∈Z))∧Region.free .any all.toArray (z73 all.length Z m t) t=true
abbrev LOK (all:List Oper) (m:Nat) (Z:List Nat):Prop:=∀ t∈Z,∀ o,all[t]?=some o→z4v o=true→∃ ty s d,o.op=.load ty (.tmp s)∧o.dst=some d∧s≠d∧∀ j oj,t<j→all[j]?=some oj→(oj.dst≠some s∧oj.dst≠some d)∧(m<j→((zk all []).getD j 0).testBit t=true)
abbrev TOK (all:List Oper) (m:Nat) (Z:List Nat):Prop:=∀ j,m≤j→j<all.length→∀ t,t<j→((zk all []).getD j 0).testBit t=true∨t∈Z

theorem zfr {o:Oper} (h:z5y o=true):o.guard=none ∧
  ((∃ s,o.op=.move (.tmp s)∨o.op=.assign (.tmp s))∨(∃ x n,o.op=.extract x n)∨∃ op t x y u,o.op=.binOp op t x y u∧(op=.add∨op=.sub∨op=.mul)):=by
 simp only [z5y,Bool.and_eq_true] at h
 obtain ⟨h1,h3⟩:=h
 refine ⟨Option.isNone_iff_eq_none.1 h1,?_⟩
 split at h3
 ·rename_i s hop; exact .inl ⟨s,.inl hop⟩
 ·rename_i s hop; exact .inl ⟨s,.inr hop⟩
 ·rename_i x n hop; exact .inr (.inl ⟨x,n,hop⟩)
 ·rename_i hop; exact .inr (.inr ⟨_,_,_,_,_,hop,.inl rfl⟩)
 ·rename_i hop; exact .inr (.inr ⟨_,_,_,_,_,hop,.inr (.inl rfl)⟩)
 ·rename_i hop; exact .inr (.inr ⟨_,_,_,_,_,hop,.inr (.inr rfl)⟩)
 ·cases h3

theorem znr (R:Rep E w0 ok O σ a.tmps w M) (T:zb P E.ti=true) (EQ:z1v P E) {o:Oper} {x:Out} (hm:z5y o=true) (h:ze E σ o=some x) :
  ∃ v u,x=(v,[],[])∧(∀ w,(execOp a.eval o).run P w=.ok (.value u) w)∧zi w0 ok M v u∧Live σ v:=by
 obtain ⟨_,hop | ⟨p,n,hop⟩ | ⟨op,t,p,q,u,hop,hopk⟩⟩:=zfr hm
 ·obtain ⟨s,hop⟩:=hop
  have hp:∃ v,lk σ.sl s=some v∧x=(v,[],[]):=by
   unfold ze z12 at h
   rcases hop with hop | hop <;> rw [hop] at h <;> simp only [opd] at h <;> split at h
   ·rename_i u hu; cases h; exact ⟨u,hu,rfl⟩
   ·cases h
   ·rename_i u hu; cases h; exact ⟨u,hu,rfl⟩
   ·cases h
  obtain ⟨v,hv,rfl⟩:=hp
  obtain ⟨u,hu1,hu2⟩:=R.slots s v hv
  have hev:a.eval (.tmp s)=u:=by
   show a.tmps.getD s undef=u
   rw [Array.getD_eq_getD_getElem?,hu1]; rfl
  refine ⟨v,u,rfl,fun w=>?_,hu2,R.liveS s v hv⟩
  unfold execOp
  rcases hop with hop | hop <;> rw [hop] <;> simp only [hev] <;> rfl
 ·unfold ze z12 at h
  rw [hop] at h
  simp only [] at h
  split at h
  ·rename_i s hs
   split at h
   ·rename_i r hr
    cases h
    obtain ⟨⟨vs,hv,h1⟩,h2⟩:=zz R rfl hs
    obtain ⟨v,cs,h3,h4,h5⟩:=zio h1 hr
    refine ⟨r,v,rfl,fun w=>?_,z1m h4 h5,ziq hr ⟨h2.rows,h2.boxes⟩⟩
    unfold execOp
    rw [hop]
    simp only [hv,Instr.extract]
    rw [← Array.getElem?_toList,h3]
    rfl
   ·cases h
  ·cases h
 ·have h0:=h
  unfold ze z12 at h
  rw [hop] at h
  simp only [] at h
  split at h
  ·rename_i sx sy hx hy
   rw [zy] at h
   obtain ⟨⟨t1,x1⟩,h1,h⟩:=Option.bind_eq_some_iff.1 h
   rw [zy] at h
   obtain ⟨⟨t2,x2⟩,h2,h⟩:=Option.bind_eq_some_iff.1 h
   obtain ⟨cs,hr1,hw1⟩:=z65 R rfl hx h1
   obtain ⟨ds,hr2,hw2⟩:=z65 R rfl hy h2
   have fin:∀ {v:SVal} (u:Value),(∀ w,(do eqGuard op t p q (a.eval p) (a.eval q); binOp op t (a.eval p) (a.eval q):Sem Value).run P w=.ok u w)→(∃ s:SV,s=.val v.t v.x∧zi w0 ok M s u) →
     ∃ v' u,((SV.val v.t v.x,[],[]):Out)=(v',[],[])∧(∀ w,(execOp a.eval o).run P w=.ok (.value u) w)∧zi w0 ok M v' u∧Live σ v':=by
    rintro v u hz ⟨s,rfl,hs⟩
    refine ⟨_,u,rfl,fun w=>?_,hs,z2s _ _⟩
    have hz:=hz w
    unfold execOp
    rw [hop]
    simp only [Sem.run_bind] at hz ⊢
    rw [hz]
    rfl
   match t1,t2,x1,x2,h,hr1,hw1,hr2,hw2 with
   | .int k,.int l,x1,x2,h,hr1,hw1,hr2,hw2 =>
    have e1:=z86 hr1 hw1
    have e2:=z86 hr2 hw2
    rw [e1,e2] at fin
    have hi:∃ v,zao op k x1 x2=some v∧k=l∧x=(.val v.t v.x,[],[]):=by
     rcases hopk with rfl | rfl | rfl <;> simp only [z5j] at h <;> split at h
     all_goals first
      | (rename_i hk; subst hk; simp only [z7t] at h; cases h; exact ⟨⟨.int k,_⟩,rfl,rfl,rfl⟩)
      | cases h
    obtain ⟨v,hv,rfl,rfl⟩:=hi
    have hvt:v.t=.int k:=by
     rcases hopk with rfl | rfl | rfl <;> (unfold zao at hv; simp only [z7t] at hv; cases hv; rfl)
    obtain ⟨vt,vx⟩:=v
    cases hvt
    refine fin (v:=⟨.int k,vx⟩) (.int k vx) (fun w=>?_) ⟨_,rfl,⟨[.int k vx],rfl,.inr ⟨rfl,rfl⟩⟩⟩
    obtain ⟨u,hu1,hu2,_⟩:=zm7 (P:=P) hv t p q w
    have:u=.int k vx:=by simpa [Rd] using hu2
    rw [← this]; exact hu1
   | .str,.str,x1,x2,h,hr1,hw1,hr2,hw2 =>
    have e1:=z87 hr1 hw1
    have e2:=z87 hr2 hw2
    rw [e1,e2] at fin
    have hi:∃ v,zap op x1 x2=some v∧x=(.val v.t v.x,[],[])∧v.t=.str:=by
     rcases hopk with rfl | rfl | rfl <;> simp only [z5j,z8u] at h
     ·split at h
      ·rename_i hl; cases h; exact ⟨⟨.str,x1++x2⟩,by unfold zap; simp only [z8u]; rw [if_pos hl],rfl,rfl⟩
      ·cases h
     ·cases h
     ·cases h
    obtain ⟨v,hv,rfl,hvt⟩:=hi
    obtain ⟨vt,vx⟩:=v
    cases hvt
    refine fin (v:=⟨.str,vx⟩) (.string ⟨vx.toArray⟩) (fun w=>?_) ⟨_,rfl,⟨[.string ⟨vx.toArray⟩],rfl,.inr ⟨rfl,rfl⟩⟩⟩
    obtain ⟨u,hu1,hu2,_⟩:=zm8 (P:=P) hv t p q w
    have:u=.string ⟨vx.toArray⟩:=by simpa [Rd] using hu2
    rw [← this]; exact hu1
   | .st t1,.st t2,x1,x2,h,hr1,hw1,hr2,hw2 =>
    exfalso
    rcases hopk with rfl | rfl | rfl <;> simp only [z5j] at h <;> (repeat' split at h) <;> first | cases h | contradiction
   | .bool,.bool,x1,x2,h,hr1,hw1,hr2,hw2 =>
    exfalso
    rcases hopk with rfl | rfl | rfl <;> simp only [z5j] at h <;> (repeat' split at h) <;> first | cases h | contradiction
  ·cases h

theorem zxv {R0:Type} {o:Oper} (hm:z5y o=true) {k:St→Option R0}:z71 E σ o k=z8y E σ o k:=by
 obtain ⟨_,⟨s,hop | hop⟩ | ⟨p,n,hop⟩ | ⟨op,t,p,q,u,hop,hopk⟩⟩:=zfr hm
 ·unfold z71; rw [hop]
 ·unfold z71; rw [hop]
 ·unfold z71; rw [hop]
 ·unfold z71; rw [hop]
  rcases hopk with rfl | rfl | rfl <;> rfl

section
variable {all : List Oper} {m : Nat} {Z : List Nat} {Q : Exit → Act → World → Prop} {L : Array Bool}
theorem zns (hs:L.size=all.length) {i:Nat} (hL:∀ t,L.getD t false=true↔t<i) (hi:i=all.length):Region.ready .any all.toArray L=[]:=by
 refine List.eq_nil_iff_forall_not_mem.2 fun j hj=>?_
 obtain ⟨h1,h2,_⟩:=z8j.1 hj
 rw [z7i (by omega)] at h2
 have:=(hL j).2 (by omega)
 rw [this] at h2; cases h2
theorem zji (hE:z42 0 all=true) (hs:L.size=all.length) {i:Nat} (hL:∀ t,L.getD t false=true↔t<i) (hlt:i<all.length):i∈Region.ready .any all.toArray L :=
 z8j.2 ⟨hlt,by
  rw [z7i (by omega)]
  cases hq:L.getD i false with
  | false=>rfl
  | true=>have:=(hL i).1 hq; omega,fun o ho e he hb=>(hL _).2 (by have:=z8h hE i o ho e he hb; omega)⟩
theorem zdg (hs:L.size=all.length) {i:Nat} (hL:∀ t,L.getD t false=true↔t<i) (hlt:i<all.length):∀ t,(L.setIfInBounds i true).getD t false=true↔t<i+1:=fun t=>by
 rw [zjh (by omega),hL t]; omega
theorem zfs (hE:z42 0 all=true) (hT:TOK all m Z) (hs:L.size=all.length) {i:Nat} (hL:∀ t,L.getD t false=true↔t<i) (hm:m≤i) (hlt:i<all.length) (hnz:i∉Z) {fuel:Nat} (h:wpOp P all.toArray Q i (wpAny P .any all.toArray Q fuel (L.setIfInBounds i true)) a w):wpAny P .any all.toArray Q (fuel+1) L a w:=by
 have hmem:=zji hE hs hL hlt
 have hcl:z8i all (fun t=>t<i):=fun j o hj ho e he hb=>by
  have:=z8h hE j o ho e he hb
  omega
 refine ⟨fun h0=>absurd hmem (by rw [h0]; simp),fun i' hi'=>?_⟩
 obtain ⟨r1,r2,r3⟩:=z8j.1 hi'
 rw [z7i (by omega)] at r2
 have hge':i≤i':=by
  rcases Nat.lt_or_ge i' i with h | h
  ·rw [(hL i').2 h] at r2; cases r2
  ·exact h
 have:i'=i:=by
  rcases Nat.lt_or_ge i i' with h | h
  ·exfalso
   have:=zb4 hE hcl i' all[i'] (List.getElem?_eq_getElem r1) (fun e he hb=>(hL _).1 (r3 _ (List.getElem?_eq_getElem r1) e he hb)) i ((hT i' (by omega) r1 i h).resolve_right hnz)
   exact Nat.lt_irrefl _ this
  ·omega
 subst this
 exact h
theorem zxw (hE:z42 0 all=true) (hQp:∀ c a w,¬ Q (.panic c) a w) (hs:L.size=all.length) {i:Nat} (hL:∀ t,L.getD t false=true↔t<i) (hm:m≤i) (hlt:i<all.length) (hz:ZOK all m Z i) {o:Oper} (ho:all[i]?=some o) {u:Value} (hg:o.guard=none) (hrun:∀ w,(execOp a.eval o).run P w=.ok (.value u) w) {fuel:Nat}
  (h:wpAny P .any all.toArray Q fuel (L.setIfInBounds i true) (a.put o.dst u) w):wpAny P .any all.toArray Q (fuel+1) L a w:=by
 have hoa:all.toArray[i]?=some o:=by simpa using ho
 obtain ⟨hsel,_,hfree⟩:=hz
 refine wpAny_first hoa (Region.noSelect_spec hsel) (fun c a w h=>absurd h (hQp c _ w)) fuel L a w (fun j oj hj hji hun hno=>?_) (zji hE hs hL hlt) (.inl ⟨by unfold Region.wanted; rw [hg],hrun⟩) h
 have hjl:j<all.length:=by
  have:=(Array.getElem?_eq_some_iff.1 hj).1
  simpa using this
 refine Region.free_spec hoa hfree j oj hj hji ?_ hno
 have hji2:¬ j<i:=fun h=>by
  have:=(hL j).2 h
  rw [z7i (by omega)] at hun
  rw [this] at hun; cases hun
 have:(z73 all.length Z m i).getD j true=(Nat.blt j i&&(Nat.ble m i||Z.any (Nat.beq j))):=by
  simp [z73,Array.getD_eq_getD_getElem?,hjl]
 rw [this]
 cases hb:Nat.blt j i with
 | false=>rfl
 | true=>exact absurd (Nat.le_of_ble_eq_true hb) hji2

theorem zjj [Glob P] {R0:Type} {res:R0} (T:zb P E.ti=true) (EQ:z1v P E) {n:Nat} (hZ:∀ t∈Z,ZOK all m Z t) (hE:z42 0 all=true) (hT:TOK all m Z) (hQp:∀ c a w,¬ Q (.panic c) a w)
  (hB:∀ o∈all,∀ d,o.dst=some d→d<n) {k:St→Option R0} :
  ∀ (fuel:Nat) {w0:World} {ok O:Nat→Prop},SpecOK P E w0 O→z2l P E w0 O→z1k E w0 ok O res n k (Q .normal)→∀ (i:Nat) (L:Array Bool) (σ:St) (a:Act) (w:World) (M:Map),L.size=all.length→(∀ t,L.getD t false=true↔t<i)→m≤i→i≤all.length→all.length≤fuel+i→z5n E all i (all.drop i) σ k=some res →
   Rep E w0 ok O σ a.tmps w M→a.tmps.size=n→a.defers=[]→wpAny P .any all.toArray Q fuel L a w:=by
 intro fuel
 induction fuel with
 | zero =>
  intro w0 ok O S K hQ i L σ a w M hs hL hm hi hf h R hn hd
  have he:i=all.length:=by omega
  subst he
  rw [List.drop_length] at h
  exact ⟨zns hs hL rfl,hQ.at σ a w M h R hn hd⟩
 | succ fuel ih =>
  intro w0 ok O S K hQ i L σ a w M hs hL hm hi hf h R hn hd
  rcases Nat.lt_or_ge i all.length with hlt | hge
  ·have hdrop:all.drop i=all[i]::all.drop (i+1):=List.drop_eq_getElem_cons hlt
   rw [hdrop] at h
   have hia:all.toArray[i]?=some all[i]:=by simp [hlt]
   have hin:inB all[i].dst a.tmps:=fun d hd=>by rw [hn]; exact hB _ (List.getElem_mem hlt) d hd
   have hL':=zdg hs hL hlt
   simp only [z5n] at h
   by_cases hz:i∈Z
   ·have hzi:=hZ i hz
    obtain ⟨_,⟨o,ho,hmv,_⟩,_⟩:=hzi
    have hmv:=hmv.resolve_right (fun h=>absurd h.1 (by omega))
    have ho2:=ho
    rw [List.getElem?_eq_getElem hlt] at ho2
    cases ho2
    obtain ⟨hg,_⟩:=zfr hmv
    simp only [z3r,hg] at h
    rw [zxv hmv] at h
    unfold z8y at h
    rw [zew] at h
    obtain ⟨out,h1,h2⟩:=Option.bind_eq_some_iff.1 h
    have R':=R.clean (zp all[i])
    obtain ⟨v,u,rfl,hrun,hu2,hlv⟩:=znr R' T EQ hmv h1
    cases hf2:(σ.clean (zp all[i])).fresh (zp all[i]) [] [] <;> rw [hf2] at h2
    ·cases h2
    ·simp only [cond_true] at h2
     have R2:=R'.putV (d:=all[i].dst) hu2 hlv hin
     obtain ⟨σ2,h3,R3⟩:=zfk R2 h2
     refine zxw hE hQp hs hL hm hlt (hZ i hz) ho hg hrun (ih S K hQ (i+1) _ σ2 (a.put all[i].dst u) w M (by simpa using hs) hL' (by omega) (by omega) (by omega) h3 (by rw [z1j]; exact R3) (by rw [z1j,z3s,hn]) (by rw [z47]; exact hd))
   ·refine zfs hE hT hs hL hm hlt hz ?_
    unfold wpOp
    rw [hia]
    simp only []
    rcases zfl R h with ⟨hw,h⟩ | ⟨hw,h⟩
    ·rw [if_pos hw]
     refine .inl (zj6 R T EQ S K hin hd h ?_)
     intro w2 ok2 O2 hc σ1 a1 w1 M1 h1 R1 hn1 hd1
     obtain ⟨σ2,h2,R2⟩:=zfk R1 h1
     exact ih (S.chg hc) (K.chg hc) (hQ.chg hc) (i+1) _ σ2 a1 w1 M1 (by simpa using hs) hL' (by omega) (by omega) (by omega) h2 R2 (by rw [hn1,hn]) hd1
    ·rw [if_neg (by rw [hw]; simp)]
     refine ih S K hQ (i+1) _ _ _ w M (by simpa using hs) hL' (by omega) (by omega) (by omega) h ?_ (by rw [z1j,z3s,hn]) (by rw [z47]; exact hd)
     rw [z1j]
     exact R.putSkip hin
  ·have he:i=all.length:=by omega
   subst he
   rw [List.drop_length] at h
   have h0:=zns hs hL rfl
   exact ⟨fun _=>hQ.at σ a w M h R hn hd,fun i' hi'=>by rw [h0] at hi'; cases hi'⟩
theorem zxx [Glob P] {R0:Type} {res:R0} (T:zb P E.ti=true) (EQ:z1v P E) {n:Nat} (hZ:∀ t∈Z,ZOK all m Z t) (hE:z42 0 all=true) (hT:TOK all m Z) (hQp:∀ c a w,¬ Q (.panic c) a w)
  (hB:∀ o∈all,∀ d,o.dst=some d→d<n) {k:St→Option R0} (fuel:Nat) {w0:World} {ok O:Nat→Prop} (S:SpecOK P E w0 O) (K:z2l P E w0 O) (hQ:z1k E w0 ok O res n k (Q .normal)) (i:Nat) (L:Array Bool) (σ:St) (a:Act) (w:World) (M:Map) (hs:L.size=all.length) (hL:∀ t,L.getD t false=true↔t<i) (hm:m≤i) (hi:i≤all.length) (hf:all.length≤fuel+i) (h:zid E all i (all.drop i) σ k=some res)
   (R:Rep E w0 ok O σ a.tmps w M) (hn:a.tmps.size=n) (hd:a.defers=[]):wpAny P .any all.toArray Q fuel L a w:=by
 have plainly:=fun h=>zjj T EQ hZ hE hT hQp hB fuel S K hQ i L σ a w M hs hL hm hi hf h R hn hd
 unfold zid at h
 split at h
 ·rename_i l d1 args ts ty1 po1 af1 d2 xt p q ty2 po2 af2 t' s2 s1 ty3 po3 af3 r hl
  split at h
  ·rename_i x y t tx hargs hts
   split at h
   ·rename_i j ni hx
    cases hb:(Nat.beq s1 d1&&(Nat.beq s2 d2&&!Nat.beq d1 d2)) <;> rw [hb] at h
    ·cases h
    ·simp only [Bool.and_eq_true,Bool.not_eq_true'] at hb
     obtain ⟨b1,b2,b3⟩:=hb
     have b1:=Nat.eq_of_beq_eq_true b1
     have b2:=Nat.eq_of_beq_eq_true b2
     subst b1 b2
     have b3:s1≠s2:=fun e=>by subst e; simp at b3
     simp only [cond_true] at h
     have ha:args=#[x,y]:=by apply Array.ext'; rw [hargs]
     have ht:ts=#[t,tx]:=by apply Array.ext'; rw [hts]
     subst ha ht
     have g0:∀ j,(all.drop i)[j]?=all[i+j]?:=fun j=>by rw [List.getElem?_drop]
     have o1:=g0 0
     have o2:=g0 1
     have o3:=g0 2
     rw [hl] at o1 o2 o3
     have hl3:all.drop (i+3)=r:=by
      have:(all.drop i).drop 3=r:=by rw [hl]; rfl
      rwa [List.drop_drop] at this
     have l3:i+2<all.length:=(List.getElem?_eq_some_iff.1 o3.symm).1
     have nz:∀ j o,m≤j→all[j]?=some o→z5y o=false→j∉Z:=fun j o hmj ho hk hz=>by
      obtain ⟨_,⟨o',ho',hm',_⟩,_⟩:=hZ j hz
      rw [ho] at ho'; cases ho'
      rcases hm' with hm' | hm'
      ·rw [hk] at hm'; cases hm'
      ·omega
     obtain ⟨fuel,rfl⟩:∃ f,fuel=f+3:=⟨fuel-3,by omega⟩
     have hi1:s1<a.tmps.size:=by rw [hn]; exact hB _ (List.mem_of_getElem? o1.symm) s1 rfl
     have hi2:s2<a.tmps.size:=by rw [hn]; exact hB _ (List.mem_of_getElem? o2.symm) s2 rfl
     have w1:=zwz (P:=P) R T hi1 hi2 b3 hx h
     have wop:∀ (j:Nat) (o:Oper) (K:Act→World→Prop) (a:Act) (w:World),all[j]?=some o→o.guard=none→o.wp P a w K Q→wpOp P all.toArray Q j K a w:=fun j o K a w ho hg hw=>by
      unfold wpOp
      rw [show all.toArray[j]?=some o by simpa using ho]
      simp only []
      rw [if_pos (by unfold Region.wanted; rw [hg])]
      exact .inl hw
     have hL1:=zdg hs hL (by omega:i<all.length)
     have hL2:=zdg (L:=L.setIfInBounds i true) (by simpa using hs) hL1 (by omega)
     have hL3:=zdg (L:=(L.setIfInBounds i true).setIfInBounds (i+1) true) (by simpa using hs) hL2 (by omega)
     refine zfs hE hT hs hL hm (by omega) (nz i _ (by omega) o1.symm rfl) (wop _ _ _ _ _ o1.symm rfl ?_)
     refine Oper.wp_mono (K:=fun a1 w1=>Oper.wp P ⟨some s2,.indexAddr xt p q,ty2,po2,af2,none⟩ a1 w1 (fun a2 w2=>Oper.wp P ⟨none,.store t' (.tmp s2) (.tmp s1),ty3,po3,af3,none⟩ a2 w2 (fun a3 w3=>wpAny P .any all.toArray Q fuel (((L.setIfInBounds i true).setIfInBounds (i+1) true).setIfInBounds (i+2) true) a3 w3) Q) Q) (fun a1 w1 h1=>?_) (w1 ty1 po1 af1 ty2 po2 af2 ty3 po3 af3 (fun σ' w' M' a' h' R' ha' hd'=>?_))
     ·refine zfs hE hT (by simpa using hs) hL1 (by omega) (by omega) (nz (i+1) _ (by omega) o2.symm rfl) (wop _ _ _ _ _ o2.symm rfl ?_)
      exact Oper.wp_mono (fun a2 w2 h2=>zfs hE hT (by simpa using hs) hL2 (by omega) (by omega) (nz (i+2) _ (by omega) o3.symm rfl) (wop _ _ _ _ _ o3.symm rfl h2)) h1
     ·rw [← hl3] at h'
      exact zjj T EQ hZ hE hT hQp hB fuel S K hQ (i+3) _ σ' a' w' M' (by simpa using hs) hL3 (by omega) (by omega) (by omega) h' R' (by rw [ha',hn]) (by rw [hd',hd])
   ·exact plainly h
  ·exact plainly h
 ·exact plainly h
end

abbrev zb6:=Nat×Value×Value
def z8k (P:Program) (o:Oper) (ad u:Value) (w:World):Prop:=(execOp (fun _=>ad) o).run P w=.ok (.value u) w
def SL (P:Program) (all:List Oper) (lf:List zb6) (p:World→Prop):Prop:=∃ f∈lf,∃ o,all[f.1]?=some o∧p=z8k P o f.2.1 f.2.2
def TF (all:List Oper) (lf:List zb6) (a:Act):Prop:=∀ f∈lf,∀ o,all[f.1]?=some o→∀ ty s d,o.op=.load ty (.tmp s)→o.dst=some d→a.eval (.tmp s)=f.2.1∧a.eval (.tmp d)=f.2.2
theorem z5q.eval {d:Option Tmp} {a a':Act} (h:z5q d a.tmps a'.tmps) {s:Tmp} (hs:d≠some s):a'.eval (.tmp s)=a.eval (.tmp s):=by
 simp only [Act.eval,Array.getD_eq_getD_getElem?,h s hs]
theorem zxy {w1:World} {ok1:Nat→Prop} {M1:Map} {t:Ty} (ht:t.one=true) {x:t.T} {u u':Value} (h:zi w0 ok M (.val t x) u) (h':zi w1 ok1 M1 (.val t x) u'):u=u':=by
 obtain ⟨cs,h1,h2⟩:=h
 obtain ⟨cs',h3,h4⟩:=h'
 have key:cs=cs'∧t.isSt=false:=by
  have h1:Rd w0 ok t x cs:=h1
  have h3:Rd w1 ok1 t x cs':=h3
  match t,ht with
  | .int _,_=>simp only [Rd] at h1 h3; exact ⟨h1.trans h3.symm,rfl⟩
  | .bool,_=>simp only [Rd] at h1 h3; exact ⟨h1.trans h3.symm,rfl⟩
  | .str,_=>simp only [Rd] at h1 h3; exact ⟨h1.trans h3.symm,rfl⟩
 obtain ⟨rfl,hst⟩:=key
 unfold z2h at h2 h4
 rw [z66,hst] at h2 h4
 simp only [Bool.false_eq_true,false_and,true_and,false_or] at h2 h4
 rw [h2] at h4
 simpa using h4
theorem zjk {o:Oper} {ty:TypeId} {s:Tmp} (hop:o.op=.load ty (.tmp s)) (a:Act):execOp (fun _=>a.eval (.tmp s)) o=execOp a.eval o:=by
 unfold execOp
 rw [hop]
theorem znt (R:Rep E w0 ok O σ a.tmps w M) (T:zb P E.ti=true) {o:Oper} {ty:TypeId} {s d:Tmp} (hop:o.op=.load ty (.tmp s)) {t:Ty} {x:t.T} {nr:List (Nat×Row)} {nb:List (Nat×Bx)} (ht:t.one=true) (h1:lk σ.sl d=some (.val t x)) (h2:ze E σ o=some (.val t x,nr,nb)):z8k P o (a.eval (.tmp s)) (a.eval (.tmp d)) w:=by
 obtain ⟨v,e1,e2,_⟩:=zis (P:=P) R rfl T hop h2
 obtain ⟨u,e3,e4⟩:=R.slots d _ h1
 have e5:a.eval (.tmp d)=u:=by simp only [Act.eval,Array.getD_eq_getD_getElem?,e3]; rfl
 have e6:v=u:=zxy ht e2 e4
 unfold z8k
 rw [zjk hop,e5,← e6]
 exact e1
theorem zxz {R0:Type} {res:R0}:∀ {t:Ty} {x y:t.T} {k:Option R0},eqC t x y k=some res→t.one=true∧x=y∧k=some res
 | .int _,x,y,k,h=>by simp only [eqC] at h; split at h; exact ⟨rfl,by assumption,h⟩; cases h
 | .bool,x,y,k,h=>by simp only [eqC] at h; split at h; exact ⟨rfl,by assumption,h⟩; cases h
 | .str,x,y,k,h=>by simp only [eqC] at h; split at h; exact ⟨rfl,by assumption,h⟩; cases h
 | .sl _ _,_,_,_,h=>nomatch h
 | .st _,_,_,_,h=>nomatch h
 | .pr _ _,_,_,_,h=>nomatch h
 | .ptr _,_,_,_,h=>nomatch h
 | .un,_,_,_,h=>nomatch h
 | .fn _ _,_,_,_,h=>nomatch h
 | .fs _,_,_,_,h=>nomatch h
 | .rd _,_,_,_,h=>nomatch h
theorem znu {R0:Type} {res:R0} {k:Option R0}:∀ {l:List Oper},zem E σ k l=some res→k=some res∧∀ o∈l,∃ d t x nr nb,o.dst=some d∧Ty.one t=true∧lk σ.sl d=some (.val t x)∧ze E σ o=some (.val t x,nr,nb)
 | [],h=>⟨h,fun o ho=>nomatch ho⟩
 | o::l,h=>by
  simp only [zem] at h
  split at h
  ·rename_i d hd
   split at h
   ·rename_i t x hx
    rw [zew] at h
    obtain ⟨⟨s,nr,nb⟩,h1,h2⟩:=Option.bind_eq_some_iff.1 h
    simp only [] at h2
    split at h2
    ·rename_i u y
     unfold zf at h2
     split at h2
     ·rename_i e
      subst e
      obtain ⟨h3,h4,h5⟩:=zxz h2
      subst h4
      obtain ⟨h6,h7⟩:=znu h5
      refine ⟨h6,fun o' ho'=>?_⟩
      rcases List.mem_cons.1 ho' with rfl | ho'
      ·exact ⟨d,_,x,nr,nb,hd,h3,hx,h1⟩
      ·exact h7 o' ho'
     ·cases h2
    ·cases h2
   ·cases h
  ·cases h
theorem zjl {all:List Oper} {Z:List Nat} {z:Nat} {o:Oper} (hz:z∈Z) (ho:all[z]?=some o) (hl:z4v o=true):o∈z93 all Z :=
 List.mem_filterMap.2 ⟨z,hz,by rw [ho]; simp only []; rw [hl]; rfl⟩
section
variable {all : List Oper} {m : Nat} {Z : List Nat} {Q : Exit → Act → World → Prop} {L : Array Bool} {S1 : (World → Prop) → Prop} {B : Nat → Prop}
theorem zy0 (hE:z42 0 all=true) (hT:TOK all m Z) (hs:L.size=all.length) {i:Nat} (hL:∀ t,L.getD t false=true↔t<i) (hm:m≤i) (hlt:i<all.length) (hnz:i∉Z) {fuel:Nat} (h:wpOp P all.toArray Q i (fun a' w'=>(∀ p,S1 p→B i→p w→p w')∧z1r P all.toArray Q S1 B fuel (L.setIfInBounds i true) a' w') a w):z1r P all.toArray Q S1 B (fuel+1) L a w:=by
 have hmem:=zji hE hs hL hlt
 have hcl:z8i all (fun t=>t<i):=fun j o hj ho e he hb=>by
  have:=z8h hE j o ho e he hb
  omega
 refine ⟨fun h0=>absurd hmem (by rw [h0]; simp),fun i' hi'=>?_⟩
 obtain ⟨r1,r2,r3⟩:=z8j.1 hi'
 rw [z7i (by omega)] at r2
 have hge':i≤i':=by
  rcases Nat.lt_or_ge i' i with h | h
  ·rw [(hL i').2 h] at r2; cases r2
  ·exact h
 have:i'=i:=by
  rcases Nat.lt_or_ge i i' with h | h
  ·exfalso
   have:=zb4 hE hcl i' all[i'] (List.getElem?_eq_getElem r1) (fun e he hb=>(hL _).1 (r3 _ (List.getElem?_eq_getElem r1) e he hb)) i ((hT i' (by omega) r1 i h).resolve_right hnz)
   exact Nat.lt_irrefl _ this
  ·omega
 subst this
 exact h
end
theorem znv [Glob P] {R0:Type} {res:R0} (T:zb P E.ti=true) (EQ:z1v P E) {n:Nat} {all:List Oper} {m:Nat} {Z:List Nat} {Q:Exit→Act→World→Prop} (hZ:∀ t∈Z,ZOK all m Z t) (hLd:LOK all m Z) (hE:z42 0 all=true) (hT:TOK all m Z) (hQp:∀ c a w,¬ Q (.panic c) a w)
  (hB:∀ o∈all,∀ d,o.dst=some d→d<n) {k:St→Option R0} (fuel:Nat) (S:SpecOK P E w0 O) (K:z2l P E w0 O) (hQ:z1k E w0 ok O res n k (Q .normal)) (L:Array Bool) (σ:St) (a:Act) (w:World) (M:Map) (hs:L.size=all.length) (hL:∀ t,L.getD t false=true↔t<m) (hi:m≤all.length) (hf:all.length≤fuel+m) (h:z92 E all (z93 all Z) m (all.drop m) σ k=some res)
  {lf:List zb6} (hlf:∀ f∈lf,f.1∈Z∧f.1<m∧∃ o,all[f.1]?=some o∧z4v o=true) (hTF:TF all lf a)
  (R:Rep E w0 ok O σ a.tmps w M) (hn:a.tmps.size=n) (hd:a.defers=[]):z1r P all.toArray Q (SL P all lf) (·≤m) fuel L a w:=by
 obtain ⟨M2,R2⟩:=zxb R
 unfold z92 at h
 split at h
 ·rename_i hnil
  have hlf0:∀ p,¬ SL P all lf p:=fun p ⟨f,hf,_⟩=>by
   obtain ⟨hz,_,o,ho,hl⟩:=hlf f hf
   have:=zjl hz ho hl
   rw [hnil] at this; cases this
  have h1:=zxx T EQ hZ hE hT hQp hB fuel S K hQ m L _ a w M2 hs hL (Nat.le_refl _) hi hf h R2 hn hd
  exact (z1r.of (B:=fun _=>False) (S:=fun _=>True) (fun j hj=>hj.elim) h1).imp0 hlf0
 ·rename_i lds hne
  rcases Nat.lt_or_ge m all.length with hlt | hge
  ·have hdrop:all.drop m=all[m]::all.drop (m+1):=List.drop_eq_getElem_cons hlt
   rw [hdrop] at h
   simp only [] at h
   cases hb:(all[m].guard.isNone&&(!z5y all[m]&&(z93 all Z).all (zen σ))) <;> rw [hb] at h
   ·cases h
   simp only [Bool.and_eq_true,Bool.not_eq_true'] at hb
   obtain ⟨hg,hmk,hone⟩:=hb
   have hg:=Option.isNone_iff_eq_none.1 hg
   simp only [cond_true] at h
   have hia:all.toArray[m]?=some all[m]:=by simp [hlt]
   have hin:inB all[m].dst a.tmps:=fun d hd=>by rw [hn]; exact hB _ (List.getElem_mem hlt) d hd
   have hnz:m∉Z:=fun hz=>by
    obtain ⟨_,⟨o',ho',hm',_⟩,_⟩:=hZ m hz
    rw [List.getElem?_eq_getElem hlt] at ho'; cases ho'
    rcases hm' with hm' | hm'
    ·rw [hmk] at hm'; cases hm'
    ·omega
   have hL':=zdg hs hL hlt
   obtain ⟨fuel,rfl⟩:∃ f,fuel=f+1:=⟨fuel-1,by omega⟩
   refine zy0 hE hT hs hL (Nat.le_refl _) hlt hnz ?_
   unfold wpOp
   rw [hia]
   simp only []
   rw [if_pos (by unfold Region.wanted; rw [hg])]
   refine .inl ?_
   have hwp:all[m].wp P a w (fun a' w'=>z5q all[m].dst a.tmps a'.tmps→((∀ p,SL P all lf p→m≤m→p w→p w')∧z1r P all.toArray Q (SL P all lf) (·≤m) fuel (L.setIfInBounds m true) a' w')) Q:=by
    refine zj6 R2 T EQ S K hin hd h ?_
    intro w2 ok2 O2 hc σ1 a1 w1 M1 h1 R1 hn1 hd1 hsb
    obtain ⟨h1,hck⟩:=znu h1
    refine ⟨fun p hp _ _=>?_,?_⟩
    ·obtain ⟨f,hf,o,ho,rfl⟩:=hp
     obtain ⟨hz,hzm,o2,ho2,hl⟩:=hlf f hf
     rw [ho] at ho2; cases ho2
     obtain ⟨ty,s,d,hop,hdst,_,hafter⟩:=hLd f.1 hz o ho hl
     obtain ⟨d2,t,x,nr,nb,e1,e2,e3,e4⟩:=hck o (zjl hz ho hl)
     rw [hdst] at e1; cases e1
     obtain ⟨t1,t2⟩:=hTF f hf o ho ty s d hop hdst
     obtain ⟨⟨n1,n2⟩,_⟩:=hafter m all[m] hzm (List.getElem?_eq_getElem hlt)
     have:=znt R1 T hop e2 e3 e4
     rw [hsb.eval n1,hsb.eval n2,t1,t2] at this
     exact this
    ·obtain ⟨σ2,h2,R3⟩:=zfk R1 h1
     refine z1r.of (fun j hj=>(hL' j).2 (by omega)) ?_
     exact zjj T EQ hZ hE hT hQp hB fuel (S.chg hc) (K.chg hc) (hQ.chg hc) (m+1) _ σ2 a1 w1 M1 (by simpa using hs) hL' (by omega) (by omega) (by omega) h2 R3 (by rw [hn1,hn]) hd1
   exact Oper.wp_mono (fun a' w' h3=>h3.2 h3.1) (Ev.Oper.wp_same hQp hwp)
  ·rw [List.drop_eq_nil_of_le hge] at h
   cases h

theorem zy1 {all:List Oper} {m:Nat} {base:St} {outs:List Out} (F:FreeP E all m base outs) {ds:List Nat} {σD:St} (hD:Done base all outs (·∈ds) σD) (hcl:z8i all (·∈ds)) {z:Nat} (hz:z∈ds) (hzm:z<m) {o:Oper} (ho:all[z]?=some o) (hg:o.guard=none) {d:Nat} (hd:o.dst=some d) {x:Out} (hx:outs[z]?=some x):lk σD.sl d=some x.1∧ze E σD o=some x:=by
 refine ⟨hD.out z o x d hz ho hx hd,?_⟩
 obtain ⟨σj,o',x',h1,hx',htr,hcj⟩:=F.at_ z hzm
 rw [ho] at h1; cases h1
 rw [hx] at hx'; cases hx'
 have hle:Le (σj.hide (z32 all ((zk all []).getD z 0) z)) σD:=zjb F hD hzm (zb4 F.edges hcl z o ho (hcl z o hz ho)) hcj
 rcases htr with ⟨_,hpu,_⟩ | ⟨hw,_⟩
 ·exact zig hle hpu
 ·simp only [z3r,hg] at hw
  cases hw
theorem zy2 {o:Oper} (h:z91 o=true):o.guard=none:=by
 simp only [z91,Bool.and_eq_true] at h
 exact Option.isNone_iff_eq_none.1 h.1
theorem znw {o:Oper} (h:z4v o=true):o.guard=none:=by
 simp only [z4v,Bool.and_eq_true] at h
 exact Option.isNone_iff_eq_none.1 h.1
theorem zy3 [Glob P] {R0:Type} {res:R0} (T:zb P E.ti=true) (EQ:z1v P E) (S:SpecOK P E w0 O) (K:z2l P E w0 O) {all:List Oper} {m n:Nat} {base σ':St} {outs:List Out} (F:FreeP E all m base outs) (hc:Chars base all outs m σ') {Z:List Nat} (hZ:∀ t∈Z,ZOK all m Z t) (hLd:LOK all m Z)
  (hT:TOK all m Z) (hB:∀ o∈all,∀ d,o.dst=some d→d<n) {k:St→Option R0} {Q:Exit→Act→World→Prop} (hQ:z1k E w0 ok O res n k (Q .normal)) (hQp:∀ c a w,¬ Q (.panic c) a w)
  (hk:z92 E all (z93 all Z) m (all.drop m) σ' k=some res) {lf:List zb6} (hlf:∀ f∈lf,f.1∈Z∧f.1<m∧∃ o,all[f.1]?=some o∧z4v o=true) (hone:∀ f∈lf,∃ t x,Ty.one t=true∧outs[f.1]?=some (.val t x,[],[])) :
  ∀ (fuel:Nat) (ds:List Nat) (L:Array Bool) (σD:St) (a:Act) (w:World) (M:Map),L.size=all.length→(∀ t,L.getD t false=true↔t∈ds)→ds.Nodup→(∀ t∈ds,t<m)→(∀ t∈Z,t<m→t∈ds)→all.length≤fuel+ds.length→z8i all (·∈ds)→Done base all outs (·∈ds) σD→TF all lf a →
   Rep E w0 ok O σD a.tmps w M→a.tmps.size=n→a.defers=[]→z1r P all.toArray Q (SL P all lf) (·≤m) fuel L a w:=by
 intro fuel
 induction fuel with
 | zero =>
  intro ds L σD a w M hs hL hnd hdm hzd hf hcl hD hTF R hn hd
  by_cases hall:∀ t,t<m→t∈ds
  ·have hiff:∀ t,L.getD t false=true↔t<m:=fun t=>(hL t).trans ⟨hdm t,hall t⟩
   exact znv T EQ hZ hLd F.edges hT hQp hB 0 S K hQ L _ a w M hs hiff F.le (by
    have:=zdf m ds hnd hdm
    omega) hk hlf hTF (final_rep F hc hD hall R) hn hd
  ·exfalso
   have:∃ t,t<m∧t∉ds:=Classical.byContradiction fun hne=>hall fun t ht=>Classical.byContradiction fun h=>hne ⟨t,ht,h⟩
   obtain ⟨t,ht,hn'⟩:=this
   have:=zdf m (t::ds) (List.nodup_cons.2 ⟨hn',hnd⟩) (fun x hx=>by rcases List.mem_cons.1 hx with rfl | hx; exact ht; exact hdm x hx)
   have:=F.le
   simp only [List.length_cons] at *
   omega
 | succ fuel ih =>
  intro ds L σD a w M hs hL hnd hdm hzd hf hcl hD hTF R hn hd
  by_cases hall:∀ t,t<m→t∈ds
  ·have hiff:∀ t,L.getD t false=true↔t<m:=fun t=>(hL t).trans ⟨hdm t,hall t⟩
   exact znv T EQ hZ hLd F.edges hT hQp hB (fuel+1) S K hQ L _ a w M hs hiff F.le (by
    have:=zdf m ds hnd hdm
    omega) hk hlf hTF (final_rep F hc hD hall R) hn hd
  ·have:∃ t,t<m∧t∉ds:=Classical.byContradiction fun hne=>hall fun t ht=>Classical.byContradiction fun h=>hne ⟨t,ht,h⟩
   obtain ⟨t,ht,hnt⟩:=this
   obtain ⟨s,s1,s2,s3⟩:=zxu (D:=(·∈ds)) t hnt
   have hsm:s<m:=by omega
   have hsl:s<all.length:=Nat.lt_of_lt_of_le hsm F.le
   have hmem:s∈Region.ready .any all.toArray L:=z8j.2 ⟨hsl,by
    rw [z7i (by omega)]
    cases hq:L.getD s false with
    | false=>rfl
    | true=>exact absurd ((hL s).1 hq) s2,fun o ho e he hb=>(hL _).2 (s3 _ (by have:=z8h F.edges s o ho e he hb; omega))⟩
   refine ⟨fun h0=>absurd hmem (by rw [h0]; simp),fun i hi=>?_⟩
   obtain ⟨r1,r2,r3⟩:=z8j.1 hi
   rw [z7i (by omega)] at r2
   have hni:i∉ds:=fun h=>by rw [(hL i).2 h] at r2; cases r2
   have hp:=zb4 F.edges hcl i all[i] (List.getElem?_eq_getElem r1) (fun e he hb=>(hL _).1 (r3 _ (List.getElem?_eq_getElem r1) e he hb))
   rcases Nat.lt_or_ge i m with him | him
   ·have hapart:∀ f∈lf,∀ o,all[f.1]?=some o→∀ ty s d,o.op=.load ty (.tmp s)→o.dst=some d→all[i].dst≠some s∧all[i].dst≠some d:=by
     intro f hf o ho ty s d hop hdst
     obtain ⟨hz,hzm,o2,ho2,hl⟩:=hlf f hf
     rw [ho] at ho2; cases ho2
     obtain ⟨ty',s',d',hop',hdst',_,hafter⟩:=hLd f.1 hz o ho hl
     rw [hop] at hop'; cases hop'
     rw [hdst] at hdst'; cases hdst'
     have hzds:=hzd f.1 hz hzm
     have hne:i≠f.1:=fun e=>hni (e▸hzds)
     rcases Nat.lt_or_ge f.1 i with hlt | hge
     ·exact (hafter i all[i] hlt (List.getElem?_eq_getElem r1)).1
     ·have hiZ:i∉Z:=fun h=>hni (hzd i h him)
      obtain ⟨_,_,hfree⟩:=hZ f.1 hz
      have hoa:all.toArray[f.1]?=some o:=by simpa using ho
      have hap:=Region.free_spec hoa hfree i all[i] (by simp [r1]) hne (by
       have:(z73 all.length Z m f.1).getD i true=(Nat.blt i f.1&&(Nat.ble m f.1||Z.any (Nat.beq i))):=by
        simp [z73,Array.getD_eq_getD_getElem?,r1]
       rw [this]
       have h1:Nat.ble m f.1=false:=by
        cases hq:Nat.ble m f.1 with
        | false=>rfl
        | true=>exact absurd (Nat.le_of_ble_eq_true hq) (by omega)
       have h2:Z.any (Nat.beq i)=false:=by
        cases hq:Z.any (Nat.beq i) with
        | false=>rfl
        | true=>exact absurd (by simpa using hq) hiZ
       rw [h1,h2]; simp) (fun e he hb heq=>by
       have:=z8h F.edges i all[i] (List.getElem?_eq_getElem r1) e (Array.mem_toList_iff.2 he) hb
       omega)
      obtain ⟨_,p2,p3⟩:=Oper.apart_spec hap
      refine ⟨fun e=>p3 s e ?_,fun e=>p2 d hdst e⟩
      unfold Oper.looksAt
      refine List.mem_append_left _ (List.mem_filterMap.2 ⟨.tmp s,?_,rfl⟩)
      rw [hop]
      simp [Op.operands]
    have hstep:wpOp P all.toArray Q i (fun a1 w1=>z5q all[i].dst a.tmps a1.tmps→((∀ p,SL P all lf p→i≤m→p w→p w1)∧z1r P all.toArray Q (SL P all lf) (·≤m) fuel (L.setIfInBounds i true) a1 w1)) a w:=by
     refine zx9 T EQ S F hD hdm him hni hp hB R hn hd fun σ1 a1 w1 M1 hD1 R1 hn1 hd1 hsb=>?_
     have hD2:Done base all outs (·∈i::ds) σ1:=by
      have e:(fun t=>t=i∨t∈ds)=(·∈i::ds):=by funext t; simp
      rw [← e]; exact hD1
     have hcl2:z8i all (·∈i::ds):=by
      intro j o hj ho e he hb
      rcases List.mem_cons.1 hj with rfl | hj
      ·exact List.mem_cons_of_mem _ ((hL _).1 (r3 o ho e he hb))
      ·exact List.mem_cons_of_mem _ (hcl j o hj ho e he hb)
     have hTF1:TF all lf a1:=fun f hf o ho ty s d hop hdst=>by
      obtain ⟨n1,n2⟩:=hapart f hf o ho ty s d hop hdst
      rw [hsb.eval n1,hsb.eval n2]
      exact hTF f hf o ho ty s d hop hdst
     refine ⟨fun p hp _ _=>?_,?_⟩
     ·obtain ⟨f,hf,o,ho,rfl⟩:=hp
      obtain ⟨hz,hzm,o2,ho2,hl⟩:=hlf f hf
      rw [ho] at ho2; cases ho2
      obtain ⟨ty,s,d,hop,hdst,_,_⟩:=hLd f.1 hz o ho hl
      obtain ⟨t,x,ht,hx⟩:=hone f hf
      obtain ⟨e1,e2⟩:=zy1 F hD2 hcl2 (List.mem_cons_of_mem _ (hzd f.1 hz hzm)) hzm ho (znw hl) hdst hx
      obtain ⟨t1,t2⟩:=hTF1 f hf o ho ty s d hop hdst
      have:=znt R1 T hop ht e1 e2
      rw [t1,t2] at this
      exact this
     ·refine ih (i::ds) _ σ1 a1 w1 M1 (by simpa using hs) (fun t=>?_) (List.nodup_cons.2 ⟨hni,hnd⟩) (fun x hx=>?_) (fun x hx hxm=>List.mem_cons_of_mem _ (hzd x hx hxm)) (by simp only [List.length_cons]; omega) hcl2 hD2 hTF1 R1 hn1 hd1
      ·rw [zjh (by omega),hL t]; simp
      ·rcases List.mem_cons.1 hx with rfl | hx
       ·exact him
       ·exact hdm x hx
    exact wpOp_mono (fun a' w' h3=>h3.2 h3.1) (zxt (by simp [r1]) hQp hstep)
   ·rcases hT i him r1 t (by omega) with h | h
    ·exact absurd (hp t h) hnt
    ·exact absurd (hzd t h ht) hnt
where
 final_rep {all:List Oper} {m:Nat} {base σ' σD:St} {outs:List Out} {ds:List Nat} {a:Act} {w:World} {M:Map} (F:FreeP E all m base outs) (hc:Chars base all outs m σ') (hD:Done base all outs (·∈ds) σD) (hall:∀ t,t<m→t∈ds) (R:Rep E w0 ok O σD a.tmps w M):Rep E w0 ok O σ' a.tmps w M:=by
  have hle:Le σ' σD:=by
   constructor
   ·intro s v h
    rcases hc.sl s v h with h | ⟨t,o,x,ht,ho,hx,hd,rfl⟩
    ·exact hD.sl s v h
    ·exact hD.out t o x s (hall t ht) ho hx hd
   ·intro s v h
    rcases hc.rows s v h with h | ⟨t,x,ht,hx,h⟩
    ·exact hD.rows s v h
    ·exact hD.rowsO t x s v (hall t ht) hx h
   ·intro s v h
    rcases hc.bx s v h with h | ⟨t,x,ht,hx,h⟩
    ·exact hD.bx s v h
    ·exact hD.bxO t x s v (hall t ht) hx h
  have live:∀ u,Live σD u→Live σ' u:=fun u hu=>⟨fun i hi=>by
   obtain ⟨r,hr⟩:=hu.rows i hi
   rcases hD.rowsB i r hr with h | ⟨j,x,r',hj,hx,h⟩
   ·exact hc.rows' i ⟨r,h⟩
   ·have hjm:j<m:=by
     have:=(List.getElem?_eq_some_iff.1 hx).1
     rw [F.len] at this; exact this
    exact hc.rowsO j x i hjm hx ⟨r',h⟩,fun i hi=>by
   obtain ⟨r,hr⟩:=hu.boxes i hi
   rcases hD.bxB i r hr with h | ⟨j,x,r',hj,hx,h⟩
   ·exact hc.bx' i ⟨r,h⟩
   ·have hjm:j<m:=by
     have:=(List.getElem?_eq_some_iff.1 hx).1
     rw [F.len] at this; exact this
    exact hc.bxO j x i hjm hx ⟨r',h⟩⟩
  exact R.le hle (fun s v h=>live v (R.liveS s v (hle.sl s v h))) (fun i b h=>live b.c (R.liveB i b (hle.bx i b h)))

theorem znx:∀ {l:List Oper} {ds:List Nat},zeo l=some ds→ds.length=l.length∧∀ (j:Nat) (o:Oper),l[j]?=some o→∃ d,o.dst=some d∧ds[j]?=some d
 | [],ds,h=>by cases h; exact ⟨rfl,fun j o hj=>by simp at hj⟩
 | o::l,ds,h=>by
  simp only [zeo] at h
  split at h
  ·rename_i d ds' h1 h2
   cases h
   obtain ⟨e1,e2⟩:=znx h2
   refine ⟨by simp [e1],fun j o' hj=>?_⟩
   cases j with
   | zero=>simp at hj; subst hj; exact ⟨d,h1,rfl⟩
   | succ j=>simp only [List.getElem?_cons_succ] at hj ⊢; exact e2 j o' hj
  ·cases h

theorem zy4 {all:List Oper} {ps:List Nat} {m t:Nat} (h:zep all ps m t=true) {o:Oper} (ho:all[t]?=some o) (hl:z4v o=true):∃ ty s d,o.op=.load ty (.tmp s)∧o.dst=some d∧s≠d∧∀ j oj,t<j→all[j]?=some oj→(oj.dst≠some s∧oj.dst≠some d)∧(m<j→(ps.getD j 0).testBit t=true):=by
 unfold zep at h
 rw [ho] at h
 have nd:∀ {s:Nat} {oj:Oper},zel s oj=true→oj.dst≠some s:=fun {s oj} h e=>by
  unfold zel at h
  rw [e] at h
  simp at h
 split at h
 ·rename_i d ty s _ _ _ _ heq
  cases heq
  simp only [Bool.and_eq_true,Bool.not_eq_true'] at h
  obtain ⟨hsd,h⟩:=h
  refine ⟨ty,s,d,rfl,rfl,fun e=>by subst e; simp at hsd,fun j oj htj hj=>?_⟩
  have hlt:=(List.getElem?_eq_some_iff.1 hj).1
  have:=List.all_eq_true.1 h j (List.mem_range.2 hlt)
  rw [hj] at this
  simp only [Bool.or_eq_true,Bool.and_eq_true] at this
  rcases this with h1 | ⟨⟨h1,h2⟩,h3⟩
  ·exact absurd (Nat.le_of_ble_eq_true h1) (by omega)
  ·refine ⟨⟨nd h1,nd h2⟩,fun hmj=>h3.resolve_left fun h=>absurd (Nat.le_of_ble_eq_true h) (by omega)⟩
 ·rename_i heq
  cases heq
  rw [hl] at h; cases h
 ·rename_i heq
  cases heq
theorem zy5 {all:List Oper} (hle:z3b (zk all []) 0≤all.length) (hT:∀ j,z3b (zk all []) 0≤j→j<all.length→z90 j ((zk all []).getD j 0)=true) :
  (z33 E all (zk all [])).1≤all.length∧(z33 E all (zk all [])).2.Pairwise (·<·) ∧
  (∀ t∈(z33 E all (zk all [])).2,ZOK all (z33 E all (zk all [])).1 (z33 E all (zk all [])).2 t)∧LOK all (z33 E all (zk all [])).1 (z33 E all (zk all [])).2∧TOK all (z33 E all (zk all [])).1 (z33 E all (zk all [])).2:=by
 have base:z3b (zk all []) 0≤all.length∧([]:List Nat).Pairwise (·<·)∧(∀ t∈([]:List Nat),ZOK all (z3b (zk all []) 0) [] t)∧LOK all (z3b (zk all []) 0) []∧TOK all (z3b (zk all []) 0) [] :=
  ⟨hle,.nil,fun t ht=>(nomatch ht),fun t ht=>(nomatch ht),fun j h1 h2 t ht=>.inl (zx6 (hT j h1 h2) ht)⟩
 unfold z33
 simp only []
 cases hb0:Nat.blt (z3j E all 0) (z3b (zk all []) 0)
 ·exact base
 ·simp only [cond_true]
  have hb0:z3j E all 0<z3b (zk all []) 0:=Nat.le_of_ble_eq_true hb0
  generalize hz1:((List.range all.length).filter fun t=>(List.range all.length).any fun j=>Nat.ble (z3j E all 0) j&&(Nat.blt t j&&!Nat.testBit ((zk all []).getD j 0) t))=z1
  generalize hz:((List.range all.length).filter fun t=>z1.any (Nat.beq t)||(Nat.blt t (z3j E all 0)&&z1.any fun s=>Nat.blt s (z3j E all 0)&&Nat.testBit ((zk all []).getD s 0) t))=z
  cases hb:(z42 0 all&&(Region.noSelect all.toArray&&z.all (fun i=>(match all[i]? with | some o=>(z5y o||(Nat.blt i (z3j E all 0)&&(z91 o||z4v o)))&&(Nat.ble (z3j E all 0) i||zlm z o) | none=>false)&&(Region.free .any all.toArray (z73 all.length z (z3j E all 0) i) i&&zep all (zk all []) (z3j E all 0) i))))
  ·exact base
  ·simp only [cond_true]
   simp only [Bool.and_eq_true] at hb
   obtain ⟨_,h2,h3⟩:=hb
   refine ⟨by omega,hz▸List.Pairwise.sublist List.filter_sublist List.pairwise_lt_range,fun t ht=>?_,fun t ht o ho hl=>?_,fun j hj hl t ht=>?_⟩
   ·have h4:=List.all_eq_true.1 h3 t ht
    simp only [Bool.and_eq_true] at h4
    refine ⟨h2,?_,h4.2.1⟩
    cases ho:all[t]? with
    | none=>rw [ho] at h4; cases h4.1
    | some o =>
     rw [ho] at h4
     simp only [Bool.and_eq_true,Bool.or_eq_true] at h4
     refine ⟨o,rfl,h4.1.1.imp id (fun h=>⟨Nat.le_of_ble_eq_true h.1,h.2⟩),fun htm e he hb=>?_⟩
     rcases h4.1.2 with h5 | h5
     ·exact absurd (Nat.le_of_ble_eq_true h5) (by omega)
     ·have:=List.all_eq_true.1 h5 e he
      rw [hb] at this
      simpa using this
   ·have h4:=List.all_eq_true.1 h3 t ht
    simp only [Bool.and_eq_true] at h4
    exact zy4 h4.2.2 ho hl
   ·cases hq:((zk all []).getD j 0).testBit t with
    | true=>exact .inl rfl
    | false =>
     refine .inr ?_
     rw [← hz,List.mem_filter,List.mem_range]
     refine ⟨by omega,?_⟩
     have:z1.any (Nat.beq t)=true:=by
      rw [List.any_eq_true]
      refine ⟨t,?_,by simp⟩
      rw [← hz1,List.mem_filter,List.mem_range]
      refine ⟨by omega,List.any_eq_true.2 ⟨j,List.mem_range.2 hl,?_⟩⟩
      rw [hq,Nat.ble_eq_true_of_le hj,show Nat.blt t j=true from Nat.ble_eq_true_of_le ht]; rfl
     rw [this]; rfl

theorem zny [Glob P] {R0:Type} {res:R0} (T:zb P E.ti=true) (EQ:z1v P E) (S:SpecOK P E w0 O) (K:z2l P E w0 O) {all:List Oper} {m n:Nat} {base σ':St} {outs:List Out} (F:FreeP E all m base outs) (hc:Chars base all outs m σ') {Z:List Nat}
  (hZ:∀ t∈Z,ZOK all m Z t) (hLd:LOK all m Z)
  (hT:TOK all m Z) (hB:∀ o∈all,∀ d,o.dst=some d→d<n) {k:St→Option R0} {Q:Exit→Act→World→Prop} (hQ:z1k E w0 ok O res n k (Q .normal)) (hQp:∀ c a w,¬ Q (.panic c) a w)
  (hk:z92 E all (z93 all Z) m (all.drop m) σ' k=some res) :
  ∀ (zs ds:List Nat) (fuel:Nat) (L:Array Bool) (σD:St) (a:Act) (w:World) (M:Map) (lf:List zb6),zs.Pairwise (·<·)→(∀ t∈ds,∀ s∈zs,t<s)→ds.Nodup→(∀ t∈zs,t∈Z∧t<m)→(∀ t∈ds,t∈Z∧t<m)→(∀ t∈Z,t<m→t∈ds∨t∈zs)→z8i all (·∈ds)→L.size=all.length→(∀ t,L.getD t false=true↔t∈ds)→all.length=fuel+ds.length→Done base all outs (·∈ds) σD →
   (∀ f∈lf,f.1∈ds∧∃ o,all[f.1]?=some o∧z4v o=true)→(∀ f∈lf,∃ t x,Ty.one t=true∧outs[f.1]?=some (.val t x,[],[]))→TF all lf a →
   Rep E w0 ok O σD a.tmps w M→a.tmps.size=n→a.defers=[]→z1r P all.toArray Q (SL P all lf) (·≤m) fuel L a w
 | [],ds,fuel,L,σD,a,w,M,lf,hpw,hzd,hnd,hzs,hds,hall,hcl,hs,hL,hf,hD,hlf,hone,hTF,R,hn,hd =>
  zy3 T EQ S K F hc hZ hLd hT hB hQ hQp hk (fun f hf=>⟨(hds _ (hlf f hf).1).1,(hds _ (hlf f hf).1).2,(hlf f hf).2⟩) hone fuel ds L σD a w M hs hL hnd (fun t ht=>(hds t ht).2) (fun t ht htm=>(hall t ht htm).resolve_right (by simp)) (by omega) hcl hD hTF R hn hd
 | z::zs,ds,fuel,L,σD,a,w,M,lf,hpw,hzds,hnd,hzs,hds,hall,hcl,hs,hL,hf,hD,hlf,hone,hTF,R,hn,hd=>by
  obtain ⟨hzZ,hzm⟩:=hzs z (by simp)
  obtain ⟨hsel,⟨o,ho,hm,haft⟩,hfree⟩:=hZ z hzZ
  have hg:o.guard=none:=by
   rcases hm with hm | ⟨_,hm | hm⟩
   ·exact (zfr hm).1
   ·exact zy2 hm
   ·exact znw hm
  have haft:=haft hzm
  have hpw2:=List.pairwise_cons.1 hpw
  have hzd:z∉ds:=fun h=>Nat.lt_irrefl _ (hzds z h z (by simp))
  have hzl:z<all.length:=Nat.lt_of_lt_of_le hzm F.le
  -- what comes ahead of z is done
  have hback:∀ t∈Z,t<z→t∈ds:=fun t ht hlt=>by
   rcases hall t ht (by omega) with h | h
   ·exact h
   ·rcases List.mem_cons.1 h with rfl | h
    ·omega
    ·have:=hpw2.1 t h
     omega
  have hafter:∀ e∈o.after.toList,Region.binds .any e=true→e.on∈ds:=fun e he hb=>hback _ (haft e he hb) (by have:=z8h F.edges z o ho e he hb; omega)
  obtain ⟨fuel,rfl⟩:∃ f,fuel=f+1:=by
   refine ⟨fuel-1,?_⟩
   have:=zdf all.length (z::ds) (List.nodup_cons.2 ⟨hzd,hnd⟩) (fun x hx=>by
    rcases List.mem_cons.1 hx with rfl | hx
    ·exact hzl
    ·exact Nat.lt_of_lt_of_le (hds x hx).2 F.le)
   simp only [List.length_cons] at this
   omega
  have hoa:all.toArray[z]?=some o:=by simpa using ho
  obtain ⟨σj,o',x,h1,hx,htr,hcj⟩:=F.at_ z hzm
  rw [ho] at h1; cases h1
  have hle:Le (σj.hide (z32 all ((zk all []).getD z 0) z)) σD:=zjb F hD hzm (zb4 F.edges hcl z o ho hafter) hcj
  have hpu:ze E σD o=some x:=by
   rcases htr with ⟨_,hpu,_⟩ | ⟨hw,_⟩
   ·exact zig hle hpu
   ·simp only [z3r,hg] at hw
    cases hw
  have hin:inB o.dst a.tmps:=fun d hd=>by rw [hn]; exact hB o (List.mem_of_getElem? ho) d hd
  have hfr:∀ (j:Nat) (oj:Oper),all.toArray[j]?=some oj→j≠z→L.getD j true=false→(∀ e∈oj.after,Region.binds .any e=true→e.on≠z)→o.apart all.toArray oj=true:=fun j oj hj hji hun hno=>by
   have hjl:j<all.length:=by
    have:=(Array.getElem?_eq_some_iff.1 hj).1
    simpa using this
   refine Region.free_spec hoa hfree j oj hj hji ?_ hno
   have hjd:j∉ds:=fun h=>by
    have:=(hL j).2 h
    rw [z7i (by omega)] at hun
    rw [this] at hun; cases hun
   have:(z73 all.length Z m z).getD j true=(Nat.blt j z&&(Nat.ble m z||Z.any (Nat.beq j))):=by
    simp [z73,Array.getD_eq_getD_getElem?,hjl]
   rw [this]
   have hmz:Nat.ble m z=false:=by
    cases hq:Nat.ble m z with
    | false=>rfl
    | true=>exact absurd (Nat.le_of_ble_eq_true hq) (by omega)
   rw [hmz,Bool.false_or]
   cases h2:Nat.blt j z with
   | false=>rfl
   | true =>
    cases h1:Z.any (Nat.beq j) with
    | false=>rfl
    | true =>
     have hjZ:j∈Z:=by simpa using h1
     exact absurd (hback j hjZ (Nat.le_of_ble_eq_true h2)) hjd
  have hrdy:z∈Region.ready .any all.toArray L:=z8j.2 ⟨hzl,by
   rw [z7i (by omega)]
   cases hq:L.getD z false with
   | false=>rfl
   | true=>exact absurd ((hL z).1 hq) hzd,fun o2 ho2 e he hb=>by
   rw [ho] at ho2; cases ho2
   exact (hL _).2 (hafter e he hb)⟩
  have hclL:zb5 all.toArray L:=fun j oj hj hoj e he hb=>(hL _).2 (hcl j oj ((hL j).1 hj) (by simpa using hoj) e (Array.mem_toList_iff.2 he) hb)
  -- what holds behind it
  have next:∀ (lf':List zb6) (v:SV) (u:Value),x=(v,[],[])→zi w0 ok M v u→Live σD v→(∀ f∈lf',f.1∈z::ds∧∃ o,all[f.1]?=some o∧z4v o=true)→(∀ f∈lf',∃ t x,Ty.one t=true∧outs[f.1]?=some (.val t x,[],[]))→TF all lf' (a.put o.dst u) →
    z1r P all.toArray Q (SL P all lf') (·≤m) fuel (L.setIfInBounds z true) (a.put o.dst u) w:=by
   intro lf' v u hxe hu2 hlv hlf' hone' hTF'
   subst hxe
   have hD1:=Done.step F hD (fun t ht=>(hds t ht).2) hzm ho hx ⟨fun k ⟨r,hr⟩=>(nomatch hr),fun k ⟨r,hr⟩=>(nomatch hr)⟩
   have hD2:Done base all outs (·∈z::ds) (z4n σD o (v,[],[])):=by
    have e:(fun t=>t=z∨t∈ds)=(·∈z::ds):=by funext t; simp
    rw [← e]; exact hD1
   refine zny T EQ S K F hc hZ hLd hT hB hQ hQp hk zs (z::ds) fuel _ (z4n σD o (v,[],[])) (a.put o.dst u) w M lf' hpw2.2 (fun t ht s hs=>?_) (List.nodup_cons.2 ⟨hzd,hnd⟩) (fun t ht=>hzs t (List.mem_cons_of_mem _ ht)) (fun t ht=>?_) (fun t ht htm=>?_) (fun j oj hj hoj e he hb=>?_) (by simpa using hs) (fun t=>?_) (by simp only [List.length_cons]; omega) hD2 hlf' hone' hTF' ?_ (by rw [z1j,z3s,hn]) (by rw [z47]; exact hd)
   ·rcases List.mem_cons.1 ht with rfl | ht
    ·exact hpw2.1 s hs
    ·exact hzds t ht s (List.mem_cons_of_mem _ hs)
   ·rcases List.mem_cons.1 ht with rfl | ht
    ·exact hzs _ (by simp)
    ·exact hds t ht
   ·rcases hall t ht htm with h | h
    ·exact .inl (List.mem_cons_of_mem _ h)
    ·rcases List.mem_cons.1 h with rfl | h
     ·exact .inl (by simp)
     ·exact .inr h
   ·rcases List.mem_cons.1 hj with rfl | hj
    ·rw [ho] at hoj; cases hoj
     exact List.mem_cons_of_mem _ (hafter e he hb)
    ·exact List.mem_cons_of_mem _ (hcl j oj hj hoj e he hb)
   ·rw [zjh (by omega),hL t]; simp
   ·rw [z1j]
    exact R.putV hu2 hlv hin
  -- the loads taken so far keep their slots
  have hold:∀ u,TF all lf (a.put o.dst u):=fun u f hf o2 ho2 ty s d hop hdst=>by
   obtain ⟨hfd,o3,ho3,hl⟩:=hlf f hf
   rw [ho2] at ho3; cases ho3
   obtain ⟨ty',s',d',hop',hdst',_,hafter'⟩:=hLd f.1 (hds _ hfd).1 o2 ho2 hl
   rw [hop] at hop'; cases hop'
   rw [hdst] at hdst'; cases hdst'
   obtain ⟨n1,n2⟩:=(hafter' z o (hzds f.1 hfd z (by simp)) ho).1
   rw [(z5q.put a o.dst u).eval n1,(z5q.put a o.dst u).eval n2]
   exact hTF f hf o2 ho2 ty s d hop hdst
  have hyield:∀ (v:SV) (u:Value),x=(v,[],[])→(∀ w,(execOp a.eval o).run P w=.ok (.value u) w)→zi w0 ok M v u→Live σD v→z1r P all.toArray Q (SL P all lf) (·≤m) (fuel+1) L a w:=by
   intro v u hxe hrun hu2 hlv
   have hY:YieldsIf P all.toArray (fun _=>True) o u a:=.inl ⟨by unfold Region.wanted; rw [hg],fun w _=>hrun w⟩
   exact znq (fun p hp=>hp) hoa (Region.noSelect_spec hsel) (fun c a w h=>absurd h (hQp c _ w)) (.inl fun _=>trivial) fuel L a w hfr hclL hrdy hY trivial
    (next lf v u hxe hu2 hlv (fun f hf=>⟨List.mem_cons_of_mem _ (hlf f hf).1,(hlf f hf).2⟩) hone (hold u))
  rcases hm with hm | ⟨_,hm | hm⟩
  ·obtain ⟨v,u,hxe,hrun,hu2,hlv⟩:=znr R T EQ hm hpu
   exact hyield v u hxe hrun hu2 hlv
  ·obtain ⟨_,v,u,hxe,hrun,hu2,hlv⟩:=zxs (P:=P) R T hm hpu
   exact hyield v u hxe hrun hu2 hlv
  ·obtain ⟨ty,s,d,hop,hdst,hsd,hafter'⟩:=hLd z hzZ o ho hm
   obtain ⟨u,hrun,hu2,hlv,hx1,hx2⟩:=zis (P:=P) R rfl T hop hpu
   -- it yields a plain value of one cell
   have hone1:∃ t y,Ty.one t=true∧x.1=.val t y:=by
    have hmem:=zjl hzZ ho hm
    unfold z92 at hk
    split at hk
    ·rename_i hnil
     rw [hnil] at hmem; cases hmem
    ·split at hk
     ·cases hk
     ·rename_i oe le hle'
      cases hb:(oe.guard.isNone&&(!z5y oe&&(z93 all Z).all (zen σ'))) <;> rw [hb] at hk
      ·cases hk
      ·simp only [Bool.and_eq_true] at hb
       have h5:=List.all_eq_true.1 hb.2.2 o hmem
       unfold zen at h5
       rw [hdst] at h5
       simp only [] at h5
       split at h5
       ·rename_i t y hty
        rcases hc.sl d _ hty with h6 | ⟨t',o2,x2,ht',ho2,hx2',hd2,he2⟩
        ·obtain ⟨d3,hd3,hb3⟩:=F.dst z o hzm ho
         rw [hdst] at hd3; cases hd3
         rw [hb3] at h6; cases h6
        ·have:=F.dist t' z o2 o d ht' hzm ho2 ho hd2 hdst
         subst this
         rw [hx] at hx2'; cases hx2'
         exact ⟨t,y,h5,he2.symm⟩
       ·cases h5
   obtain ⟨t,y,ht1,hxv⟩:=hone1
   obtain ⟨xs,xr,xb⟩:=x
   obtain rfl:xs=.val t y:=hxv
   obtain rfl:xr=[]:=hx1
   obtain rfl:xb=[]:=hx2
   have hf0:z8k P o (a.eval (.tmp s)) u w:=by
    unfold z8k
    rw [zjk hop]; exact hrun
   have hY:YieldsIf P all.toArray (z8k P o (a.eval (.tmp s)) u) o u a:=.inl ⟨by unfold Region.wanted; rw [hg],fun w2 h2=>by
    unfold z8k at h2
    rw [zjk hop] at h2; exact h2⟩
   refine znq (p0:=z8k P o (a.eval (.tmp s)) u) (S':=SL P all ((z,a.eval (.tmp s),u)::lf)) (fun p ⟨f,hf,h⟩=>⟨f,List.mem_cons_of_mem _ hf,h⟩) hoa (Region.noSelect_spec hsel) (fun c a w h=>absurd h (hQp c _ w)) (.inr ⟨⟨_,List.mem_cons_self,o,ho,rfl⟩,fun L' hcl' hL' j hj=>?_⟩) fuel L a w hfr hclL hrdy hY hf0 ?_
   ·obtain ⟨r1,r2,r3⟩:=z8j.1 hj
    rcases Nat.lt_or_ge m j with hmj | hmj
    ·exfalso
     have hbit:=(hafter' j all[j] (by omega) (List.getElem?_eq_getElem r1)).2 hmj
     have hclD:z8i all (fun t=>L'.getD t false=true):=fun i oi hi hoi e he hb=>hcl' i oi hi (by simpa using hoi) e (Array.mem_toList_iff.1 he) hb
     have:=zb4 F.edges hclD j all[j] (List.getElem?_eq_getElem r1) (fun e he hb=>r3 _ (List.getElem?_eq_getElem r1) e he hb) z hbit
     rw [hL'] at this; cases this
    ·exact hmj
   ·refine next _ (.val t y) u rfl hu2 hlv (fun f hf=>?_) (fun f hf=>?_) (fun f hf=>?_)
    ·rcases List.mem_cons.1 hf with rfl | hf
     ·exact ⟨by simp,o,ho,hm⟩
     ·exact ⟨List.mem_cons_of_mem _ (hlf f hf).1,(hlf f hf).2⟩
    ·rcases List.mem_cons.1 hf with rfl | hf
     ·exact ⟨t,y,ht1,hx⟩
     ·exact hone f hf
    ·rcases List.mem_cons.1 hf with rfl | hf
     ·intro o2 ho2 ty2 s2 d2 hop2 hdst2
      rw [ho] at ho2; cases ho2
      rw [hop] at hop2; cases hop2
      rw [hdst] at hdst2; cases hdst2
      rw [hdst]
      refine ⟨(z5q.put a (some d) u).eval (fun e=>hsd (by cases e; rfl)),?_⟩
      have:=hin d hdst
      simp [Act.eval,Act.put,Array.getD_eq_getD_getElem?,this]
     ·exact hold u f hf

theorem znz [Glob P] {R0:Type} {res:R0} (T:zb P E.ti=true) (EQ:z1v P E) (S:SpecOK P E w0 O) (K:z2l P E w0 O) {all:List Oper} {n:Nat} (hB:∀ o∈all,∀ d,o.dst=some d→d<n) {k:St→Option R0} {Q:Exit→Act→World→Prop} (hQ:z1k E w0 ok O res n k (Q .normal))
  {σ:St} {a:Act} {w:World} {M:Map} (h:zeq E all σ k=some res) (R:Rep E w0 ok O σ a.tmps w M) (hn:a.tmps.size=n) (hd:a.defers=[]):wpAny P .any all.toArray (fun e a w=>(∀ c,e≠.panic c)∧Q e a w) all.toArray.size (Array.replicate all.toArray.size false) a { w with drawn:=w.drawn+1 }:=by
 unfold zeq at h
 simp only [] at h
 split at h
 ·rename_i ds hds
  cases hb:(z4h ds&&z42 0 all) <;> rw [hb] at h
  ·cases h
  ·simp only [Bool.and_eq_true] at hb
   have hnd:=zlu hb.1
   simp only [cond_true] at h
   obtain ⟨outs,σ',g1,g2,g3,g4⟩:=zj8 _ _ _ _ h
   obtain ⟨t1,t2⟩:=zx3 g1
   obtain ⟨d1,d2⟩:=znx hds
   obtain ⟨pr,pr1,pr2⟩:=zj9 all []
   have hlen:(zk all []).length=all.length:=by rw [pr1]; simp [pr2]
   have hfl:∀ (ps:List Nat) (i:Nat),z3b ps i≤ps.length:=by
    intro ps
    induction ps with
    | nil=>intro i; exact Nat.le_refl _
    | cons p ps ih =>
     intro i
     simp only [z3b]
     have:=ih (i+1)
     split
     ·cases z90 i p <;> simp
     ·rename_i n hn; rw [hn] at this; simp; omega
   have hmle:z3b (zk all []) 0≤all.length:=by rw [← hlen]; exact hfl _ _
   have hT:∀ j,z3b (zk all []) 0≤j→j<all.length→z90 j ((zk all []).getD j 0)=true:=by
    intro j hj hlt
    have hget:(zk all [])[j]?=some (zk all [])[j]:=List.getElem?_eq_getElem (by omega)
    have:=zja (zk all []) 0 j _ hj hget
    rw [Nat.zero_add] at this
    rw [List.getD_eq_getElem?_getD,hget]; exact this
   obtain ⟨hmle,hznd,hZ,hLd,hT⟩:=zy5 (E:=E) hmle hT
   have hplen:((zk all []).take (z33 E all (zk all [])).1).length=(z33 E all (zk all [])).1:=by rw [List.length_take,hlen]; omega
   rw [hplen] at g2 g3 g4
   rw [Nat.zero_add] at g4
   have hdtake:ds.length=(z33 E all (zk all [])).1:=by rw [d1,List.length_take]; omega
   have F:FreeP E all (z33 E all (zk all [])).1 (σ.hideS ds) outs:=by
    refine ⟨g2,hmle,hb.2,fun j o hj ho=>?_,fun i j o o' d hi hj ho ho' hd hd'=>?_,fun j hj=>?_⟩
    ·obtain ⟨d,e1,e2⟩:=d2 j o (by rw [List.getElem?_take_of_lt hj]; exact ho)
     refine ⟨d,e1,?_⟩
     show lk (σ.sl.filter (fun x=>!(ds.any (Nat.beq x.1)))) d=none
     rw [z9f (fun n=>!(ds.any (Nat.beq n))),if_neg (fun hh=>zfo.1 hh (List.mem_of_getElem? e2))]
    ·obtain ⟨d3,e1,e2⟩:=d2 i o (by rw [List.getElem?_take_of_lt hi]; exact ho)
     obtain ⟨d4,e3,e4⟩:=d2 j o' (by rw [List.getElem?_take_of_lt hj]; exact ho')
     rw [hd] at e1; rw [hd'] at e3
     cases e1; cases e3
     have hi':i<ds.length:=by omega
     have hj':j<ds.length:=by omega
     have:=(List.getElem?_eq_some_iff.1 e2).2.trans (List.getElem?_eq_some_iff.1 e4).2.symm
     exact zjg hnd hi' hj' this
    ·obtain ⟨σj,o,x,p,h1,h2,h3,h4,h5⟩:=t1 j (by rw [g2]; exact hj)
     rw [Nat.zero_add] at h4
     have:(zk all []).getD j 0=p:=by
      rw [List.getElem?_take_of_lt hj] at h3
      rw [List.getD_eq_getElem?_getD,h3]; rfl
     rw [this]
     exact ⟨σj,o,x,h1,h2,h4,h5⟩
   have R1:Rep E w0 ok O (σ.hideS ds) a.tmps { w with drawn:=w.drawn+1 } M:=by
    refine Rep.world (w:=w) ?_ rfl rfl rfl rfl
    refine R.fewer (sl:=σ.sl.filter (fun x=>!(ds.any (Nat.beq x.1)))) fun s v h=>?_
    rw [z9f (fun n=>!(ds.any (Nat.beq n)))] at h
    split at h
    ·exact h
    ·cases h
   rw [g2] at t2
   have hD0:Done (σ.hideS ds) all outs (·∈([]:List Nat)) (σ.hideS ds) :=
    ⟨fun _ _ h=>h,fun j o x d hj=>absurd hj (by simp),fun _ _ h=>h,fun j x i r hj=>absurd hj (by simp),fun _ _ h=>h,fun j x i r hj=>absurd hj (by simp),fun _ _ h=>.inl h,fun _ _ h=>.inl h⟩
   refine z1r.any (zny T EQ S K F t2 hZ hLd hT hB (fun _ _ _ hc σ a w M h1 h2 h3 h4=>⟨fun c hh=>(nomatch hh),hQ _ _ _ hc σ a w M h1 h2 h3 h4⟩) (fun c a w h=>h.1 c rfl) g4 ((z33 E all (zk all [])).2.filter fun t=>Nat.blt t (z33 E all (zk all [])).1) [] all.toArray.size (Array.replicate all.toArray.size false) (σ.hideS ds) a _ M [] (List.Pairwise.sublist List.filter_sublist hznd) (fun t ht=>(nomatch ht)) List.nodup_nil (fun t ht=>⟨(List.mem_filter.1 ht).1,Nat.le_of_ble_eq_true (List.mem_filter.1 ht).2⟩) (fun t ht=>(nomatch ht)) (fun t ht htm=>.inr (List.mem_filter.2 ⟨ht,Nat.ble_eq_true_of_le htm⟩)) (fun j o hj=>(nomatch hj)) (by simp) (fun t=>by
    simp only [Array.getD_eq_getD_getElem?,Array.getElem?_replicate]
    split <;> simp) (by simp) hD0 (fun f hf=>(nomatch hf)) (fun f hf=>(nomatch hf)) (fun f hf=>(nomatch hf)) R1 hn hd)
 ·cases h
theorem zy6 {all:List Oper} {ord:List Nat} (h:zcn all ord=true):PermP all.toArray (z81 all ord).toArray (z5z ord) (fun j=>ord.getD j 0)∧(∀ (i:Nat) (o:Oper),all.toArray[i]?=some o→∀ g,o.guard=some g→g.1<all.toArray.size)∧(∀ o∈z81 all ord,∃ o0∈all,o.dst=o0.dst):=by
 unfold zcn at h
 simp only [Bool.and_eq_true] at h
 obtain ⟨h1,h2,h3⟩:=h
 have hlen:ord.length=all.length:=Nat.eq_of_beq_eq_true h1
 have hf:∀ i,i<all.length→z5z ord i<all.length∧ord.getD (z5z ord i) 0=i∧ord.getD i 0<all.length∧z5z ord (ord.getD i 0)=i:=fun i hi=>by
  have:=List.all_eq_true.1 h2 i (List.mem_range.2 hi)
  simp only [Bool.and_eq_true] at this
  exact ⟨Nat.le_of_ble_eq_true this.1,Nat.eq_of_beq_eq_true this.2.1,Nat.le_of_ble_eq_true this.2.2.1,Nat.eq_of_beq_eq_true this.2.2.2⟩
 have hmem:∀ (i:Nat) (o:Oper),all[i]?=some o→o∈all:=fun i o ho=>List.mem_of_getElem? ho
 have hsz:(z81 all ord).toArray.size=all.toArray.size:=by simp [z81,hlen]
 refine ⟨⟨hsz,fun i o ho=>?_,fun i hi=>?_,fun j hj=>?_,fun i o ho e he hb=>?_⟩,fun i o ho g hg=>?_,fun o ho=>?_⟩
 ·have ho:all[i]?=some o:=by simpa using ho
  have hi:=(List.getElem?_eq_some_iff.1 ho).1
  obtain ⟨a1,a2,a3,a4⟩:=hf i hi
  have e1:ord[z5z ord i]?=some i:=by
   have hl:z5z ord i<ord.length:=by omega
   rw [List.getD_eq_getElem?_getD,List.getElem?_eq_getElem hl] at a2
   rw [List.getElem?_eq_getElem hl]; exact congrArg some a2
  have e2 : all.getD i ⟨none, .move (.tmp 0), 0, "", #[], none⟩ = o := by rw [List.getD_eq_getElem?_getD, ho]; rfl
  simp only [List.getElem?_toArray,z81,List.getElem?_map,e1,Option.map_some,e2]
 ·have hi:i<all.length:=by simpa using hi
  obtain ⟨a1,a2,a3,a4⟩:=hf i hi
  exact ⟨by simpa using a1,a2⟩
 ·have hj:j<all.length:=by simpa using hj
  obtain ⟨a1,a2,a3,a4⟩:=hf j hj
  exact ⟨by simpa using a3,a4⟩
 ·have ho:all[i]?=some o:=by simpa using ho
  have:=List.all_eq_true.1 h3 o (hmem i o ho)
  simp only [Bool.and_eq_true] at this
  have:=List.all_eq_true.1 this.1 e (Array.mem_toList_iff.2 he)
  rw [hb] at this
  simp only [Bool.not_true,Bool.false_or] at this
  rw [List.size_toArray]; exact Nat.le_of_ble_eq_true this
 ·have ho:all[i]?=some o:=by simpa using ho
  have:=List.all_eq_true.1 h3 o (hmem i o ho)
  simp only [Bool.and_eq_true,hg] at this
  rw [List.size_toArray]; exact Nat.le_of_ble_eq_true this.2
 ·obtain ⟨i,hi,rfl⟩:=List.mem_map.1 ho
  obtain ⟨n,hn⟩:=List.getElem?_of_mem hi
  have hnl:n<all.length:=by rw [← hlen]; exact (List.getElem?_eq_some_iff.1 hn).1
  have a3:=(hf n hnl).2.2.1
  rw [List.getD_eq_getElem?_getD,hn] at a3
  have a3:i<all.length:=a3
  refine ⟨all[i],List.getElem_mem a3,?_⟩
  rw [List.getD_eq_getElem?_getD,List.getElem?_eq_getElem a3]; rfl
theorem zy7 [Glob P] {R0:Type} {res:R0} (T:zb P E.ti=true) (EQ:z1v P E) (S:SpecOK P E w0 O) (K:z2l P E w0 O) (hmix:P.follows .mixedOrders=true) {all:List Oper} {n id:Nat} (hB:∀ o∈all,∀ d,o.dst=some d→d<n) {k:St→Option R0} {Q:Exit→Act→World→Prop} (hQ:z1k E w0 ok O res n k (Q .normal))
  {σ:St} {a:Act} {w:World} {M:Map} (h:zie E all σ k=some res) (R:Rep E w0 ok O σ a.tmps w M) (hn:a.tmps.size=n) (hd:a.defers=[]):(Code.region id all.toArray true).wp P Q a w:=by
 refine Code.wp_mono (Q:=fun e a w=>(∀ c,e≠.panic c)∧Q e a w) (fun e a w h=>h.2) ?_
 refine wp_region_any hmix ?_
 unfold zie at h
 have same:=fun (hh:zeq E all σ k=some res)=>znz T EQ S K hB hQ hh R hn hd
 have hcase:zer E all=all∨∃ ord,zcn all ord=true∧zer E all=z81 all ord:=by
  unfold zer
  simp only []
  cases (Nat.blt (z3j E all 0) (z3b (zk all []) 0)&&Nat.blt (z3j E all 0) (z33 E all (zk all [])).1) with
  | false=>exact .inl rfl
  | true =>
   simp only [cond_true]
   generalize (List.range all.length).filter (fun j=>!Nat.beq j (z3j E all 0)&&!Nat.testBit ((zk all []).getD j 0) (z3j E all 0))++z3j E all 0::(List.range all.length).filter (fun j=>Nat.testBit ((zk all []).getD j 0) (z3j E all 0))=ord
   cases hb:zcn all ord with
   | false=>exact .inl rfl
   | true=>exact .inr ⟨ord,hb,rfl⟩
 rcases hcase with e | ⟨ord,hp,e⟩
 ·rw [e] at h
  exact same h
 ·rw [e] at h
  obtain ⟨H,hg,hdst⟩:=zy6 hp
  have h2:=znz T EQ S K (all:=z81 all ord) (fun o ho d hd=>by
   obtain ⟨o0,h0,e0⟩:=hdst o ho
   exact hB o0 h0 d (by rw [← e0]; exact hd)) hQ h R hn hd
  rw [H.size] at h2
  exact zxe H hg _ _ _ _ _ (by simp) (by simp) (fun i hi=>by
   have:=(H.fwd i hi).1
   simp only [Array.getD_eq_getD_getElem?,Array.getElem?_replicate]
   rw [if_pos this,if_pos hi]) h2
end

theorem z9g:∀ (l:List Nat) (i n:Nat),i∈l→∃ k,zaf i l n=n+k∧l[k]?=some i
 | [],i,n,h=>by cases h
 | j::l,i,n,h=>by
  simp only [zaf,z4m]
  by_cases hij:i=j
  ·subst hij; exact ⟨0,by simp,rfl⟩
  ·simp only [hij,decide_false,cond_false]
   obtain ⟨k,h1,h2⟩:=z9g l i (n+1) ((List.mem_cons.1 h).resolve_left hij)
   exact ⟨k+1,by rw [h1]; omega,h2⟩
theorem zb7:∀ (l acc:List Nat) (i:Nat),i∈l∨i∈acc→i∈z4i l acc
 | [],acc,i,h=>by simp [z4i]; simpa using h
 | j::l,acc,i,h=>by
  simp only [z4i]
  cases hb:acc.any (Nat.beq j)
  ·simp only [cond_false]
   refine zb7 l _ i ?_
   rcases h with h | h
   ·rcases List.mem_cons.1 h with rfl | h
    ·exact .inr (by simp)
    ·exact .inl h
   ·exact .inr (by simp [h])
  ·simp only [cond_true]
   refine zb7 l _ i ?_
   rcases h with h | h
   ·rcases List.mem_cons.1 h with rfl | h
    ·obtain ⟨x,hx,hb⟩:=List.any_eq_true.1 hb
     rw [Nat.eq_of_beq_eq_true hb]; exact .inr hx
    ·exact .inl h
   ·exact .inr h
theorem zy8 {ids:List Nat} (hl:ids.length<1000) {i j:Nat} (hi:i∈ids) (hj:j∈ids) (h:z44 ids i=z44 ids j):i=j:=by
 have key:∀ i,i∈ids→i<PIN→z44 ids i<PIN∧∃ k,z44 ids i=NB+k∧ids[k]?=some i:=by
  intro i hi hp
  obtain ⟨k,h1,h2⟩:=z9g ids i 0 hi
  have hb:Nat.blt i PIN=true:=Nat.ble_eq_true_of_le hp
  have e:z44 ids i=NB+k:=by simp only [z44,hb,cond_true,h1,Nat.zero_add]
  have hk:=(List.getElem?_eq_some_iff.1 h2).1
  refine ⟨?_,k,e,h2⟩
  rw [e]; simp only [NB,PIN]; omega
 have big:∀ i,¬ i<PIN→z44 ids i=i:=by
  intro i hp
  have hb:Nat.blt i PIN=false:=by
   cases hq:Nat.blt i PIN with
   | false=>rfl
   | true=>exact absurd (Nat.le_of_ble_eq_true hq) hp
  simp only [z44,hb,cond_false]
 by_cases h1:i<PIN <;> by_cases h2:j<PIN
 ·obtain ⟨_,k,e1,e2⟩:=key i hi h1
  obtain ⟨_,k',e3,e4⟩:=key j hj h2
  have:k=k':=by omega
  subst this
  rw [e2] at e4
  exact Option.some.inj e4
 ·have:=(key i hi h1).1
  rw [h,big j h2] at this; omega
 ·have:=(key j hj h2).1
  rw [← h,big i h1] at this; omega
 ·rw [big i h1,big j h2] at h; exact h
theorem zy9 {ids:List Nat} (hl:ids.length<1000) {i:Nat} (hi:i∈ids) (h:PIN≤z44 ids i):z44 ids i=i:=by
 by_cases h1:i<PIN
 ·exfalso
  obtain ⟨k,h2,h3⟩:=z9g ids i 0 hi
  have hb:Nat.blt i PIN=true:=Nat.ble_eq_true_of_le h1
  have e:z44 ids i=NB+k:=by simp only [z44,hb,cond_true,h2,Nat.zero_add]
  have hk:=(List.getElem?_eq_some_iff.1 h3).1
  rw [e] at h
  simp only [NB,PIN] at h
  omega
 ·have hb:Nat.blt i PIN=false:=by
   cases hq:Nat.blt i PIN with
   | false=>rfl
   | true=>exact absurd (Nat.le_of_ble_eq_true hq) h1
  simp only [z44,hb,cond_false]

theorem zb8 (f:Nat→Nat) (s:SV):(s.ren f).roots=s.roots.map f∧(s.ren f).boxes=s.boxes∧(s.ren f).isSt=s.isSt∧(s.ren f).count=s.count∧(s.ren f).isCh=s.isCh:=by
 induction s with
 | st s ih=>exact ⟨ih.1,ih.2.1,rfl,rfl,rfl⟩
 | pr a b iha ihb=>exact ⟨by simp [SV.ren,SV.roots,iha.1,ihb.1],by simp [SV.ren,SV.boxes,iha.2.1,ihb.2.1],rfl,rfl,rfl⟩
 | clo g s ih=>exact ⟨ih.1,ih.2.1,rfl,rfl,rfl⟩
 | tup s ih=>exact ⟨ih.1,ih.2.1,rfl,rfl,rfl⟩
 | cns a b iha ihb=>exact ⟨by simp [SV.ren,SV.roots,iha.1,ihb.1],by simp [SV.ren,SV.boxes,iha.2.1,ihb.2.1],rfl,by simp [SV.ren,SV.count,ihb.2.2.2.1],rfl⟩
 | val t x=>cases t <;> exact ⟨rfl,rfl,rfl,rfl,rfl⟩
 | _=>exact ⟨rfl,rfl,rfl,rfl,rfl⟩

section
variable {P : Program} {E : Env} {w0 : World} {ok O : Nat → Prop} {σ σ' : St} {tm : Array Value} {w w' : World} {M M' : Map} {a : Act}

structure Renm (M M':Map) (f:Nat→Nat) (ids:List Nat):Prop where
 loc:∀ i∈ids,M'.loc (f i)=M.loc i
 blk:M'.blk=M.blk
 bn:M'.bn=M.bn
 bw:M'.bw=M.bw
theorem z3v {f:Nat→Nat} {ids:List Nat} (H:Renm M M' f ids):∀ {s:SV} {cs:List Value},(∀ i∈s.roots,i∈ids)→za w0 ok M s cs→za w0 ok M' (s.ren f) cs
 | .val t x,cs,h,hs=>by cases t <;> exact hs
 | .ref i p,cs,h,hs=>by
  have e:=H.loc i (h i (by simp [SV.roots]))
  simp only [SV.ren,za] at hs ⊢
  rw [e]; exact hs
 | .vw i lo n,cs,h,hs=>by
  have e:=H.loc i (h i (by simp [SV.roots]))
  simp only [SV.ren,za] at hs ⊢
  rw [e]; exact hs
 | .ls i,cs,h,hs=>by simp only [SV.ren,za,H.blk,H.bn] at hs ⊢; exact hs
 | .st s,cs,h,hs=>z3v H (s:=s) h hs
 | .pr a b,cs,h,hs=>by
  obtain ⟨c1,c2,rfl,h1,h2⟩:=hs
  exact ⟨c1,c2,rfl,z3v H (fun i hi=>h i (by simp [SV.roots,hi])) h1,z3v H (fun i hi=>h i (by simp [SV.roots,hi])) h2⟩
 | .bp i p o,cs,h,hs=>by simp only [SV.ren,za,H.blk] at hs ⊢; exact hs
 | .ep i p n f' o,cs,h,hs=>by
  have e:=H.loc i (h i (by simp [SV.roots]))
  simp only [SV.ren,za] at hs ⊢
  rw [e]; exact hs
 | .lp i n,cs,h,hs=>by simp only [SV.ren,za,H.blk,H.bn,H.bw] at hs ⊢; exact hs
 | .clo g c,cs,h,hs=>by
  obtain ⟨caps,rfl,h1⟩:=hs
  exact ⟨caps,rfl,z3v H (s:=c) h h1⟩
 | .no,cs,h,hs=>hs
 | .er _,cs,h,hs=>hs
 | .un,cs,h,hs=>hs
 | .tup _,_,_,h=>h.elim
 | .cns _ _,_,_,h=>h.elim
 | .nl,_,_,h=>h.elim
theorem zya {f:Nat→Nat} {ids:List Nat} (H:Renm M M' f ids) {s:SV}:∀ {cs:List Value},(∀ i∈s.roots,i∈ids)→z1e w0 ok M s cs→z1e w0 ok M' (s.ren f) cs:=by
 induction s with
 | cns a b iha ihb =>
  intro cs h hs
  obtain ⟨c1,c2,rfl,h1,h2⟩:=hs
  exact ⟨c1,c2,rfl,z3v H (fun i hi=>h i (by simp [SV.roots,hi])) h1,ihb (fun i hi=>h i (by simp [SV.roots,hi])) h2⟩
 | nl=>intro cs h hs; exact hs
 | val t x=>intro cs h hs; exact zu (z3v H h hs)
 | ref i p=>intro cs h hs; exact zu (z3v H h hs)
 | vw i lo n=>intro cs h hs; exact zu (z3v H h hs)
 | ls i=>intro cs h hs; exact zu (z3v H h hs)
 | st s _=>intro cs h hs; exact zu (z3v H (s:=.st s) h hs)
 | pr a b _ _=>intro cs h hs; exact zu (z3v H (s:=.pr a b) h hs)
 | bp i p o=>intro cs h hs; exact zu (z3v H h hs)
 | ep i p n f o=>intro cs h hs; exact zu (z3v H h hs)
 | lp i n=>intro cs h hs; exact zu (z3v H h hs)
 | clo g s _=>intro cs h hs; exact zu (z3v H (s:=.clo g s) h hs)
 | no=>intro cs h hs; exact hs
 | er b=>intro cs h hs; exact hs
 | un=>intro cs h hs; exact hs
 | tup s _=>intro cs h hs; exact hs.elim
theorem zyb {f:Nat→Nat} {ids:List Nat} (H:Renm M M' f ids) {s:SV}:∀ {vs:List Value},(∀ i∈s.roots,i∈ids)→z2d w0 ok M s vs→z2d w0 ok M' (s.ren f) vs:=by
 induction s with
 | cns a b iha ihb =>
  intro vs h hs
  obtain ⟨v,vs',rfl,⟨cs,h1,h3⟩,h2⟩:=hs
  exact ⟨v,vs',rfl,⟨cs,z3v H (fun i hi=>h i (by simp [SV.roots,hi])) h1,by rw [(zb8 f a).2.2.1]; exact h3⟩,ihb (fun i hi=>h i (by simp [SV.roots,hi])) h2⟩
 | nl=>intro vs h hs; exact hs
 | _=>intro vs h hs; exact hs.elim
theorem zyc {f:Nat→Nat} {ids:List Nat} (H:Renm M M' f ids) {s:SV} {v:Value} (h:∀ i∈s.roots,i∈ids) (hs:zi w0 ok M s v):zi w0 ok M' (s.ren f) v:=by
 rcases z34 hs with rfl | ⟨c,vs,rfl,rfl,h1⟩ | ⟨cs,h1,h2⟩
 ·trivial
 ·exact ⟨vs,rfl,zyb H h h1⟩
 ·exact z1m (z3v H h h1) (by unfold z2h; rw [(zb8 f s).2.2.1]; exact h2)

theorem zft {rows:List (Nat×Row)} {f:Nat→Nat}:∀ {l:List Nat} {j:Nat} {r:Row},lk (z60 rows f l) j=some r→∃ i∈l,f i=j∧lk rows i=some r
 | [],j,r,h=>by cases h
 | i::l,j,r,h=>by
  simp only [z60] at h
  split at h
  ·rename_i r' hr
   rw [zn] at h
   split at h
   ·rename_i e; cases h; exact ⟨i,by simp,e,hr⟩
   ·obtain ⟨i',h1,h2⟩:=zft h; exact ⟨i',by simp [h1],h2⟩
  ·obtain ⟨i',h1,h2⟩:=zft h; exact ⟨i',by simp [h1],h2⟩
theorem zo0 {rows:List (Nat×Row)} {f:Nat→Nat}:∀ {l:List Nat} {i:Nat} {r:Row},i∈l→lk rows i=some r→∃ r',lk (z60 rows f l) (f i)=some r'
 | [],i,r,h,_=>by cases h
 | j::l,i,r,h,hr=>by
  simp only [z60]
  by_cases hij:i=j
  ·subst hij; rw [hr]; exact ⟨r,z5b _ _ _⟩
  ·obtain ⟨r',hr'⟩:=zo0 (f:=f) ((List.mem_cons.1 h).resolve_left hij) hr
   split
   ·rw [zn]; split; exact ⟨_,rfl⟩; exact ⟨r',hr'⟩
   ·exact ⟨r',hr'⟩

theorem Rep.ren (R:Rep E w0 ok O σ tm w M) {f:Nat→Nat} {ids:List Nat} (hS:∀ s v,lk σ.sl s=some v→∀ i∈v.roots,i∈ids) (hB:∀ j b,lk σ.bx j=some b→∀ i∈b.c.roots,i∈ids) (hinj:∀ i j,i∈ids→j∈ids→f i=f j→i=j) (hpin:∀ i∈ids,PIN≤f i→f i=i) :
  ∃ M',Rep E w0 ok O ⟨zw (SV.ren f) σ.sl,z60 σ.rows f ids,zw (fun b=>⟨b.ty,b.c.ren f⟩) σ.bx⟩ tm w M':=by
 let g:Nat→Loc:=fun j=>match ids.find? (fun i=>Nat.beq (f i) j) with | some i=>M.loc i | none=>M.loc j
 have hg:∀ i∈ids,g (f i)=M.loc i:=by
  intro i hi
  show (match ids.find? (fun k=>Nat.beq (f k) (f i)) with | some i=>M.loc i | none=>M.loc (f i))=M.loc i
  cases hq:ids.find? (fun k=>Nat.beq (f k) (f i)) with
  | none=>have:=List.find?_eq_none.1 hq i hi; simp at this
  | some k =>
   have h1:=List.mem_of_find?_eq_some hq
   have h2:f k=f i:=by have:=List.find?_some hq; exact Nat.eq_of_beq_eq_true this
   rw [hinj k i h1 hi h2]
 have H:Renm M { M with loc:=g } f ids:=⟨hg,rfl,rfl,rfl⟩
 have hrow:∀ j,(∃ r,lk (z60 σ.rows f ids) j=some r)→∃ i∈ids,f i=j∧∃ r,lk σ.rows i=some r:=fun j ⟨r,hr⟩=>by
  obtain ⟨i,h1,h2,h3⟩:=zft hr; exact ⟨i,h1,h2,r,h3⟩
 have hbx:∀ j b,lk (zw (fun b:Bx=>(⟨b.ty,b.c.ren f⟩:Bx)) σ.bx) j=some b→∃ u,lk σ.bx j=some u∧b=⟨u.ty,u.c.ren f⟩:=fun j b h=>by
  rw [z24] at h
  obtain ⟨u,h1,rfl⟩:=Option.map_eq_some_iff.1 h
  exact ⟨u,h1,rfl⟩
 have hbx1:∀ j,(∃ b,lk (zw (fun b:Bx=>(⟨b.ty,b.c.ren f⟩:Bx)) σ.bx) j=some b)→∃ b,lk σ.bx j=some b:=fun j ⟨b,h⟩=>by
  obtain ⟨u,h1,_⟩:=hbx j b h; exact ⟨u,h1⟩
 have live:∀ u,Live σ u→(∀ i∈u.roots,i∈ids)→Live ⟨zw (SV.ren f) σ.sl,z60 σ.rows f ids,zw (fun b=>⟨b.ty,b.c.ren f⟩) σ.bx⟩ (u.ren f):=fun u hu hin=>⟨fun j hj=>by
   rw [(zb8 f u).1] at hj
   obtain ⟨i,hi,rfl⟩:=List.mem_map.1 hj
   obtain ⟨r,hr⟩:=hu.rows i hi
   exact zo0 (hin i hi) hr,fun j hj=>by
   rw [(zb8 f u).2.1] at hj
   obtain ⟨b,hb⟩:=hu.boxes j hj
   exact ⟨_,by show lk (zw _ σ.bx) j=_; rw [z24,hb]; rfl⟩⟩
 refine ⟨{ M with loc:=g },?_⟩
 constructor
 ·intro s v h
  have h:lk (zw (SV.ren f) σ.sl) s=some v:=h
  rw [z24] at h
  obtain ⟨u,h1,rfl⟩:=Option.map_eq_some_iff.1 h
  obtain ⟨z,h2,h3⟩:=R.slots s u h1
  exact ⟨z,h2,zyc H (hS s u h1) h3⟩
 ·intro j r h
  obtain ⟨i,h1,rfl,h3⟩:=zft h
  obtain ⟨l,e1,e2⟩:=R.rows i r h3
  exact ⟨l,(hg i h1).trans e1,e2⟩
 ·intro j b h
  obtain ⟨u,h1,rfl⟩:=hbx j b h
  obtain ⟨cs,h2,h3,h4⟩:=R.boxes j u h1
  exact ⟨cs,zya H (hB j u h1) h2,h3,fun hc=>by
   rw [(zb8 f u.c).2.2.2.2] at hc
   rw [(zb8 f u.c).2.2.2.1]
   exact h4 hc⟩
 ·intro i j hij hi hj k hk
  obtain ⟨i',i1,rfl,i3⟩:=hrow i hi
  obtain ⟨j',j1,rfl,j3⟩:=hrow j hj
  show k∉z6 (g (f j')).1 (g (f j')).2
  have hk:k∈z6 (g (f i')).1 (g (f i')).2:=hk
  rw [hg i' i1] at hk
  rw [hg j' j1]
  exact R.rr i' j' (fun e=>hij (by rw [e])) i3 j3 k hk
 ·exact fun i j hij hi hj=>R.bb i j hij (hbx1 i hi) (hbx1 j hj)
 ·intro i j hi hj
  obtain ⟨i',i1,rfl,i3⟩:=hrow i hi
  show M.blk j∉z6 (g (f i')).1 (g (f i')).2
  rw [hg i' i1]
  exact R.rb i' j i3 (hbx1 j hj)
 ·intro i hi k hk
  obtain ⟨i',i1,rfl,i3⟩:=hrow i hi
  have hk:k∈z6 (g (f i')).1 (g (f i')).2:=hk
  rw [hg i' i1] at hk
  exact R.ownR i' i3 k hk
 ·exact fun i hi=>R.ownB i (hbx1 i hi)
 ·exact R.okB
 ·intro s v h
  have h:lk (zw (SV.ren f) σ.sl) s=some v:=h
  rw [z24] at h
  obtain ⟨u,h1,rfl⟩:=Option.map_eq_some_iff.1 h
  exact live u (R.liveS s u h1) (hS s u h1)
 ·intro j b h
  obtain ⟨u,h1,rfl⟩:=hbx j b h
  exact live u.c (R.liveB j u h1) (hB j u h1)
 ·exact R.kept
 ·intro i hi hr
  obtain ⟨i',i1,rfl,i3⟩:=hrow i hr
  show z8 (g (f i')).1 (g (f i')).2=_
  rw [hg i' i1]
  have e:=hpin i' i1 hi
  rw [e] at hi ⊢
  exact R.pin i' hi i3
 ·exact fun i hi hq=>R.pinB i hi (hbx1 i hq)

theorem zb9 {sl:List (Nat×SV)}:∀ {L:List Nat} {s:Nat} {v:SV},lk (z5o sl L) s=some v→lk sl s=some v
 | [],s,v,h=>by cases h
 | i::L,s,v,h=>by
  simp only [z5o] at h
  split at h
  ·rename_i u hu
   rw [zn] at h
   split at h
   ·rename_i e; subst e; cases h; exact hu
   ·exact zb9 h
  ·exact zb9 h
theorem zba {bx:List (Nat×Bx)}:∀ {L:List Nat} {s:Nat} {v:Bx},lk (z4w bx L) s=some v→s∈L∧lk bx s=some v
 | [],s,v,h=>by cases h
 | i::L,s,v,h=>by
  simp only [z4w] at h
  split at h
  ·rename_i u hu
   rw [zn] at h
   split at h
   ·rename_i e; subst e; cases h; exact ⟨by simp,hu⟩
   ·obtain ⟨h1,h2⟩:=zba h; exact ⟨by simp [h1],h2⟩
  ·obtain ⟨h1,h2⟩:=zba h; exact ⟨by simp [h1],h2⟩
theorem zjm {bx:List (Nat×Bx)}:∀ {L:List Nat} {s:Nat} {v:Bx},s∈L→lk bx s=some v→∃ v',lk (z4w bx L) s=some v'
 | [],s,v,h,_=>by cases h
 | i::L,s,v,h,hv=>by
  simp only [z4w]
  by_cases e:s=i
  ·subst e; rw [hv]; exact ⟨v,z5b _ _ _⟩
  ·obtain ⟨v',h'⟩:=zjm ((List.mem_cons.1 h).resolve_left e) hv
   split
   ·rw [zn]; split; exact ⟨_,rfl⟩; exact ⟨v',h'⟩
   ·exact ⟨v',h'⟩

theorem zo1 (l:List Nat):∀ {σ:St} {j:Nat},(∃ b,lk (l.foldl St.dropB σ).bx j=some b)→j∉l∧∃ b,lk σ.bx j=some b:=by
 induction l with
 | nil=>intro σ j h; exact ⟨by simp,h⟩
 | cons i l ih =>
  intro σ j h
  obtain ⟨h1,b,h2⟩:=ih (σ:=σ.dropB i) h
  refine ⟨?_,(Sub.dropB σ i).bx j b h2⟩
  simp only [List.mem_cons,not_or]
  exact ⟨zfc ⟨b,h2⟩,h1⟩

theorem zyd (R:Rep E w0 ok O σ tm w M) (L B:List Nat):∃ M',Rep E w0 ok O (σ.norm L B) tm w M':=by
 have R1:=R.dropsB (σ.bx.filterMap (fun x=>bif B.any (Nat.beq x.1) then none else some x.1))
 have hin:∀ j,(∃ b,lk ((σ.bx.filterMap (fun x=>bif B.any (Nat.beq x.1) then none else some x.1)).foldl St.dropB σ).bx j=some b)→j∈B:=by
  intro j hj
  obtain ⟨h1,b,h2⟩:=zo1 _ hj
  refine Classical.byContradiction fun hn=>h1 (List.mem_filterMap.2 ⟨(j,b),z13 h2,?_⟩)
  have:B.any (Nat.beq j)=false:=by
   cases hq:B.any (Nat.beq j) with
   | false=>rfl
   | true =>
    obtain ⟨x,hx,hb⟩:=List.any_eq_true.1 hq
    exact absurd (Nat.eq_of_beq_eq_true hb▸hx) hn
  simp [this]
 unfold St.norm
 simp only []
 generalize (σ.bx.filterMap (fun x=>bif B.any (Nat.beq x.1) then none else some x.1)).foldl St.dropB σ=σ1 at R1 hin ⊢
 have R2:Rep E w0 ok O ⟨z5o σ1.sl L,σ1.rows,z4w σ1.bx B⟩ tm w M:=by
  have live:∀ u,Live σ1 u→Live ⟨z5o σ1.sl L,σ1.rows,z4w σ1.bx B⟩ u:=fun u hu=>⟨hu.rows,fun i hi=>by
   obtain ⟨b,hb⟩:=hu.boxes i hi
   exact zjm (hin i ⟨b,hb⟩) hb⟩
  exact R1.weaken (fun s v h=>⟨⟨v,zb9 h,.same v⟩,live v (R1.liveS s v (zb9 h))⟩) (fun i r h=>h) (fun i b h=>⟨⟨b,(zba h).2,rfl,.same _⟩,live b.c (R1.liveB i b (zba h).2)⟩)
 generalize hids:z4i (σ1.rows.filterMap (fun x=>bif Nat.blt x.1 PIN then none else some x.1)++((z5o σ1.sl L).flatMap (fun x=>x.2.roots)++(z4w σ1.bx B).flatMap (fun x=>x.2.c.roots))) []=ids
 cases hl:Nat.blt ids.length 1000
 ·exact ⟨M,R.weaken (fun s v h=>by cases h) (fun i r h=>by cases h) (fun i b h=>by cases h)⟩
 ·have hlen:ids.length<1000:=Nat.le_of_ble_eq_true hl
  exact R2.ren (fun s v h i hi=>by
   rw [← hids]
   exact zb7 _ _ _ (.inl (List.mem_append.2 (.inr (List.mem_append.2 (.inl (List.mem_flatMap.2 ⟨(s,v),z13 h,hi⟩))))))) (fun j b h i hi=>by
   rw [← hids]
   exact zb7 _ _ _ (.inl (List.mem_append.2 (.inr (List.mem_append.2 (.inr (List.mem_flatMap.2 ⟨(j,b),z13 h,hi⟩))))))) (fun i j hi hj h=>zy8 hlen hi hj h) (fun i hi h=>zy9 hlen hi h)
theorem zye {ids:List Nat} (hl:ids.length<1000) {i j:Nat} (hi:i∈ids) (hj:j∈ids) (h:z74 ids i=z74 ids j):i=j:=by
 obtain ⟨k,h1,h2⟩:=z9g ids i 0 hi
 obtain ⟨l,h3,h4⟩:=z9g ids j 0 hj
 unfold z74 at h
 have:k=l:=by omega
 subst this
 rw [h2] at h4
 exact Option.some.inj h4
theorem zyf {ids:List Nat} (hl:ids.length<1000) {i:Nat} (hi:i∈ids) (h:PIN≤z74 ids i):z74 ids i=i:=by
 exfalso
 obtain ⟨k,h2,h3⟩:=z9g ids i 0 hi
 have hk:=(List.getElem?_eq_some_iff.1 h3).1
 unfold z74 at h
 simp only [NB,PIN] at h
 omega
theorem zyg (R:Rep E w0 ok O σ tm w M) (L B:List Nat):∃ M',Rep E w0 ok O (σ.normA L B) tm w M':=by
 have R1:=R.dropsB (σ.bx.filterMap (fun x=>bif B.any (Nat.beq x.1) then none else some x.1))
 have hin:∀ j,(∃ b,lk ((σ.bx.filterMap (fun x=>bif B.any (Nat.beq x.1) then none else some x.1)).foldl St.dropB σ).bx j=some b)→j∈B:=by
  intro j hj
  obtain ⟨h1,b,h2⟩:=zo1 _ hj
  refine Classical.byContradiction fun hn=>h1 (List.mem_filterMap.2 ⟨(j,b),z13 h2,?_⟩)
  have:B.any (Nat.beq j)=false:=by
   cases hq:B.any (Nat.beq j) with
   | false=>rfl
   | true =>
    obtain ⟨x,hx,hb⟩:=List.any_eq_true.1 hq
    exact absurd (Nat.eq_of_beq_eq_true hb▸hx) hn
  simp [this]
 unfold St.normA
 simp only []
 generalize (σ.bx.filterMap (fun x=>bif B.any (Nat.beq x.1) then none else some x.1)).foldl St.dropB σ=σ1 at R1 hin ⊢
 have R2:Rep E w0 ok O ⟨z5o σ1.sl L,σ1.rows,z4w σ1.bx B⟩ tm w M:=by
  have live:∀ u,Live σ1 u→Live ⟨z5o σ1.sl L,σ1.rows,z4w σ1.bx B⟩ u:=fun u hu=>⟨hu.rows,fun i hi=>by
   obtain ⟨b,hb⟩:=hu.boxes i hi
   exact zjm (hin i ⟨b,hb⟩) hb⟩
  exact R1.weaken (fun s v h=>⟨⟨v,zb9 h,.same v⟩,live v (R1.liveS s v (zb9 h))⟩) (fun i r h=>h) (fun i b h=>⟨⟨b,(zba h).2,rfl,.same _⟩,live b.c (R1.liveB i b (zba h).2)⟩)
 generalize hids:z4i ((z5o σ1.sl L).flatMap (fun x=>x.2.roots)++(z4w σ1.bx B).flatMap (fun x=>x.2.c.roots)) []=ids
 cases hl:Nat.blt ids.length 1000
 ·exact ⟨M,R.weaken (fun s v h=>by cases h) (fun i r h=>by cases h) (fun i b h=>by cases h)⟩
 ·have hlen:ids.length<1000:=Nat.le_of_ble_eq_true hl
  exact R2.ren (fun s v h i hi=>by
   rw [← hids]
   exact zb7 _ _ _ (.inl (List.mem_append.2 (.inl (List.mem_flatMap.2 ⟨(s,v),z13 h,hi⟩))))) (fun j b h i hi=>by
   rw [← hids]
   exact zb7 _ _ _ (.inl (List.mem_append.2 (.inr (List.mem_flatMap.2 ⟨(j,b),z13 h,hi⟩))))) (fun i j hi hj h=>zye hlen hi hj h) (fun i hi h=>zyf hlen hi h)
end

section
variable {R0 : Type} {res : R0}

theorem zfu:∀ {p:List PK} {q:List Step} {k:PT p→Option R0},getP p q k=some res→∃ x,z7y p x=q∧k x=some res
 | [],[],k,h=>⟨(),rfl,h⟩
 | .ix::p,.ix n::q,k,h=>by
  obtain ⟨x,h1,h2⟩:=zfu (p:=p) (k:=fun x=>k (n,x)) h
  exact ⟨(n,x),by simp [z7y,h1],h2⟩
 | .f b::p,.f c::q,k,h=>by
  simp only [getP] at h
  cases hb:(b==c) <;> rw [hb] at h
  ·cases h
  ·obtain ⟨x,h1,h2⟩:=zfu (p:=p) (k:=k) h
   exact ⟨x,by simp only [z7y,h1,eq_of_beq hb],h2⟩
 | .u::p,.u::q,k,h=>by
  obtain ⟨x,h1,h2⟩:=zfu (p:=p) (k:=k) h
  exact ⟨x,by simp [z7y,h1],h2⟩
 | [],_::_,k,h=>by cases h
 | .ix::p,[],k,h=>by cases h
 | .ix::p,.f _::_,k,h=>by cases h
 | .ix::p,.u::_,k,h=>by cases h
 | .f b::p,[],k,h=>by cases h
 | .f b::p,.ix _::_,k,h=>by cases h
 | .f b::p,.u::_,k,h=>by cases h
 | .u::p,[],k,h=>by cases h
 | .u::p,.ix _::_,k,h=>by cases h
 | .u::p,.f _::_,k,h=>by cases h
theorem zo2:∀ {l m:List Bool},zcj l m=true→l=m
 | [],[],_=>rfl
 | a::l,b::m,h=>by
  simp only [zcj,Bool.and_eq_true] at h
  rw [eq_of_beq h.1,zo2 h.2]
 | [],_::_,h=>by cases h
 | _::_,[],h=>by cases h
theorem zbb {u t:Ty} {x:u.T} {k:t.T→Option R0} (h:zf u t x k=some res):∃ e:u=t,k (e▸x)=some res:=by
 unfold zf at h
 split at h
 ·rename_i e; exact ⟨e,h⟩
 ·cases h
theorem z7j:∀ {s:SK} {v:SV} {k:s.T→Option R0},s.get v k=some res→∃ x,s.fill x=v∧k x=some res
 | .val t,v,k,h=>by
  simp only [SK.get] at h
  split at h
  ·obtain ⟨e,h⟩:=zbb h; subst e; exact ⟨_,rfl,h⟩
  ·cases h
 | .ref i p,v,k,h=>by
  simp only [SK.get] at h
  split at h
  ·rename_i j q
   cases hb:Nat.beq i j <;> rw [hb] at h
   ·cases h
   ·obtain ⟨x,h1,h2⟩:=zfu h
    exact ⟨x,by simp only [SK.fill,h1,Nat.eq_of_beq_eq_true hb],h2⟩
  ·cases h
 | .vw i,v,k,h=>by
  simp only [SK.get] at h
  split at h
  ·rename_i j a b
   cases hb:Nat.beq i j <;> rw [hb] at h
   ·cases h
   ·exact ⟨(a,b),by simp only [SK.fill,Nat.eq_of_beq_eq_true hb],h⟩
  ·cases h
 | .ls i,v,k,h=>by
  simp only [SK.get] at h
  split at h
  ·rename_i j
   cases hb:Nat.beq i j <;> rw [hb] at h
   ·cases h
   ·exact ⟨(),by simp only [SK.fill,Nat.eq_of_beq_eq_true hb],h⟩
  ·cases h
 | .st s,v,k,h=>by
  simp only [SK.get] at h
  split at h
  ·obtain ⟨x,h1,h2⟩:=z7j (s:=s) (k:=k) h
   exact ⟨x,by simp only [SK.fill,h1],h2⟩
  ·cases h
 | .pr a b,v,k,h=>by
  simp only [SK.get] at h
  split at h
  ·obtain ⟨x,h1,h⟩:=z7j (s:=a) h
   obtain ⟨y,h2,h⟩:=z7j (s:=b) h
   exact ⟨(x,y),by simp only [SK.fill,h1,h2],h⟩
  ·cases h
 | .bp i p o,v,k,h=>by
  simp only [SK.get] at h
  split at h
  ·rename_i j q c
   cases hb:(Nat.beq i j&&(zcj p q&&Nat.beq o c)) <;> rw [hb] at h
   ·cases h
   ·simp only [Bool.and_eq_true] at hb
    exact ⟨(),by simp only [SK.fill,Nat.eq_of_beq_eq_true hb.1,zo2 hb.2.1,Nat.eq_of_beq_eq_true hb.2.2],h⟩
  ·cases h
 | .clo g s,v,k,h=>by
  simp only [SK.get] at h
  split at h
  ·rename_i g' w
   cases hb:Nat.beq g g' <;> rw [hb] at h
   ·cases h
   ·obtain ⟨x,h1,h2⟩:=z7j (s:=s) (k:=k) h
    exact ⟨x,by simp only [SK.fill,h1,Nat.eq_of_beq_eq_true hb],h2⟩
  ·cases h
 | .tup s,v,k,h=>by
  simp only [SK.get] at h
  split at h
  ·obtain ⟨x,h1,h2⟩:=z7j (s:=s) (k:=k) h
   exact ⟨x,by simp only [SK.fill,h1],h2⟩
  ·cases h
 | .cns a b,v,k,h=>by
  simp only [SK.get] at h
  split at h
  ·obtain ⟨x,h1,h⟩:=z7j (s:=a) h
   obtain ⟨y,h2,h⟩:=z7j (s:=b) h
   exact ⟨(x,y),by simp only [SK.fill,h1,h2],h⟩
  ·cases h
 | .nl,v,k,h=>by
  simp only [SK.get] at h
  split at h
  ·exact ⟨(),rfl,h⟩
  ·cases h
 | .no,v,k,h=>by
  simp only [SK.get] at h
  split at h
  ·exact ⟨(),rfl,h⟩
  ·cases h
 | .er,v,k,h=>by
  simp only [SK.get] at h
  split at h
  ·rename_i b; exact ⟨b,rfl,h⟩
  ·cases h
 | .un,v,k,h=>by
  simp only [SK.get] at h
  split at h
  ·exact ⟨(),rfl,h⟩
  ·cases h

theorem zfv {σ:List (Nat×SV)}:∀ {l:List (Nat×SK)} {k:slT l→Option R0},zah σ l k=some res→∃ x,k x=some res∧∀ i v,(i,v)∈zck l x→lk σ i=some v
 | [],k,h=>⟨(),h,by simp [zck]⟩
 | (i,s)::l,k,h=>by
  simp only [zah] at h
  split at h
  ·rename_i v hv
   obtain ⟨x,h1,h⟩:=z7j h
   obtain ⟨y,h2,h3⟩:=zfv h
   refine ⟨(x,y),h2,fun j u hj=>?_⟩
   rcases List.mem_cons.1 hj with e | hj
   ·cases e; rw [hv,h1]
   ·exact h3 j u hj
  ·cases h
theorem zfw {σ:List (Nat×Row)}:∀ {l:List (Nat×TypeId×Ty×Bool)} {k:zaa l→Option R0},zai σ l k=some res→∃ x,k x=some res∧∀ i v,(i,v)∈zag l x→lk σ i=some v
 | [],k,h=>⟨(),h,by simp [zag]⟩
 | (i,e,t,z)::l,k,h=>by
  simp only [zai] at h
  split at h
  ·rename_i r hr
   cases hb:(Nat.beq r.e e&&(r.z==z)) <;> rw [hb] at h
   ·cases h
   ·simp only [Bool.and_eq_true] at hb
    simp only [cond_true] at h
    obtain ⟨he,h⟩:=zbb h
    obtain ⟨y,h2,h3⟩:=zfw h
    obtain ⟨re,rt,rx,rz⟩:=r
    have e1:re=e:=Nat.eq_of_beq_eq_true hb.1
    have e2:rz=z:=eq_of_beq hb.2
    have e3:rt=t:=by injection he
    subst e1; subst e2; subst e3
    refine ⟨(rx,y),h2,fun j u hj=>?_⟩
    rcases List.mem_cons.1 hj with q | hj
    ·cases q; exact hr
    ·exact h3 j u hj
  ·cases h
theorem zfx {σ:List (Nat×Bx)}:∀ {l:List (Nat×TypeId×SK)} {k:bxT l→Option R0},zaj σ l k=some res→∃ x,k x=some res∧∀ i v,(i,v)∈z8z l x→lk σ i=some v
 | [],k,h=>⟨(),h,by simp [z8z]⟩
 | (i,t,s)::l,k,h=>by
  simp only [zaj] at h
  split at h
  ·rename_i b hb'
   cases hb:Nat.beq b.ty t <;> rw [hb] at h
   ·cases h
   ·simp only [cond_true] at h
    obtain ⟨x,h1,h⟩:=z7j h
    obtain ⟨y,h2,h3⟩:=zfx h
    refine ⟨(x,y),h2,fun j u hj=>?_⟩
    rcases List.mem_cons.1 hj with q | hj
    ·cases q
     rw [hb',h1,← Nat.eq_of_beq_eq_true hb]
    ·exact h3 j u hj
  ·cases h

theorem z5e:∀ (s:SK) (x:s.T),(s.fill x).roots=s.roots∧(s.fill x).boxes=s.boxes
 | .val t,x=>⟨rfl,rfl⟩
 | .ref i p,x=>⟨rfl,rfl⟩
 | .vw i,x=>⟨rfl,rfl⟩
 | .ls i,x=>⟨rfl,rfl⟩
 | .st s,x=>z5e s x
 | .pr a b,x=>⟨by simp [SK.fill,SV.roots,SK.roots,(z5e a x.1).1,(z5e b x.2).1],by simp [SK.fill,SV.boxes,SK.boxes,(z5e a x.1).2,(z5e b x.2).2]⟩
 | .bp i p o,x=>⟨rfl,rfl⟩
 | .clo g s,x=>z5e s x
 | .tup s,x=>z5e s x
 | .cns a b,x=>⟨by simp [SK.fill,SV.roots,SK.roots,(z5e a x.1).1,(z5e b x.2).1],by simp [SK.fill,SV.boxes,SK.boxes,(z5e a x.1).2,(z5e b x.2).2]⟩
 | .nl,x=>⟨rfl,rfl⟩
 | .no,x=>⟨rfl,rfl⟩
 | .er,x=>⟨rfl,rfl⟩
 | .un,x=>⟨rfl,rfl⟩
theorem zo3:∀ {l:List (Nat×TypeId×Ty×Bool)} {x:zaa l} {i:Nat},(l.any fun r=>Nat.beq r.1 i)=true→∃ r,lk (zag l x) i=some r
 | (j,e,t,z)::l,x,i,h=>by
  simp only [List.any_cons,Bool.or_eq_true] at h
  simp only [zag]
  rw [zn]
  split
  ·exact ⟨_,rfl⟩
  ·rename_i hne
   rcases h with h | h
   ·exact absurd (Nat.eq_of_beq_eq_true h) hne
   ·exact zo3 h
theorem zo4:∀ {l:List (Nat×TypeId×SK)} {x:bxT l} {i:Nat},(l.any fun r=>Nat.beq r.1 i)=true→∃ r,lk (z8z l x) i=some r
 | (j,e,t)::l,x,i,h=>by
  simp only [List.any_cons,Bool.or_eq_true] at h
  simp only [z8z]
  rw [zn]
  split
  ·exact ⟨_,rfl⟩
  ·rename_i hne
   rcases h with h | h
   ·exact absurd (Nat.eq_of_beq_eq_true h) hne
   ·exact zo4 h
theorem zfy:∀ {l:List (Nat×SK)} {x:slT l} {i:Nat} {v:SV},(i,v)∈zck l x→∃ s y,(i,s)∈l∧v=SK.fill s y
 | (j,s)::l,x,i,v,h=>by
  rcases List.mem_cons.1 h with e | h
  ·cases e; exact ⟨s,x.1,by simp,rfl⟩
  ·obtain ⟨s',y,h1,h2⟩:=zfy h; exact ⟨s',y,by simp [h1],h2⟩
theorem zfz:∀ {l:List (Nat×TypeId×SK)} {x:bxT l} {i:Nat} {b:Bx},(i,b)∈z8z l x→∃ t s y,(i,t,s)∈l∧b=⟨t,SK.fill s y⟩
 | (j,t,s)::l,x,i,v,h=>by
  rcases List.mem_cons.1 h with e | h
  ·cases e; exact ⟨t,s,x.1,by simp,rfl⟩
  ·obtain ⟨t',s',y,h1,h2⟩:=zfz h; exact ⟨t',s',y,by simp [h1],h2⟩
end

section
variable {P : Program} {E : Env} {w0 : World} {ok O : Nat → Prop} {σ σ' : St} {tm : Array Value} {w w' : World} {M M' : Map} {a : Act} {R0 : Type} {res : R0}

theorem zbc {h:Head} {x:h.T} {s:SK} {y:s.T} (hk:s.okIn h=true):Live (h.fill x) (s.fill y):=by
 simp only [SK.okIn,Bool.and_eq_true,List.all_eq_true] at hk
 exact ⟨fun i hi=>by rw [(z5e s y).1] at hi; exact zo3 (hk.1 i hi),fun i hi=>by rw [(z5e s y).2] at hi; exact zo4 (hk.2 i hi)⟩

theorem zyh (R:Rep E w0 ok O σ tm w M) {h:Head} (hk:h.ok=true) {k:h.T→Option R0} (hg:h.getP σ k=some res):∃ x M',k x=some res∧Rep E w0 ok O (h.fill x) tm w M':=by
 unfold Head.getP at hg
 simp only [] at hg
 obtain ⟨M',R'⟩:=zyd R (h.sl.map (·.1)) (h.bx.map (·.1))
 generalize σ.norm (h.sl.map (·.1)) (h.bx.map (·.1))=σ1 at hg R'
 obtain ⟨x,hg,hx⟩:=zfv hg
 obtain ⟨y,hg,hy⟩:=zfw hg
 obtain ⟨z,hg,hz⟩:=zfx hg
 simp only [Head.ok,Bool.and_eq_true,List.all_eq_true] at hk
 refine ⟨(x,y,z),M',hg,R'.le ⟨fun s v hv=>hx s v (z13 hv),fun s v hv=>hy s v (z13 hv),fun s v hv=>hz s v (z13 hv)⟩ (fun s v hv=>?_) (fun i b hb=>?_)⟩
 ·obtain ⟨sk,y',h1,rfl⟩:=zfy (z13 hv)
  exact zbc (hk.1 _ h1)
 ·obtain ⟨t,sk,y',h1,rfl⟩:=zfz (z13 hb)
  exact zbc (hk.2 _ h1)

theorem zyi (R:Rep E w0 ok O σ tm w M) {h:Head} (hk:h.ok=true) {k:h.T→Option R0} (hg:h.getA σ k=some res):∃ x M',k x=some res∧Rep E w0 ok O (h.fill x) tm w M':=by
 unfold Head.getA at hg
 simp only [] at hg
 obtain ⟨M',R'⟩:=zyg R (h.sl.map (·.1)) (h.bx.map (·.1))
 generalize σ.normA (h.sl.map (·.1)) (h.bx.map (·.1))=σ1 at hg R'
 obtain ⟨x,hg,hx⟩:=zfv hg
 obtain ⟨y,hg,hy⟩:=zfw hg
 obtain ⟨z,hg,hz⟩:=zfx hg
 simp only [Head.ok,Bool.and_eq_true,List.all_eq_true] at hk
 refine ⟨(x,y,z),M',hg,R'.le ⟨fun s v hv=>hx s v (z13 hv),fun s v hv=>hy s v (z13 hv),fun s v hv=>hz s v (z13 hv)⟩ (fun s v hv=>?_) (fun i b hb=>?_)⟩
 ·obtain ⟨sk,y',h1,rfl⟩:=zfy (z13 hv)
  exact zbc (hk.1 _ h1)
 ·obtain ⟨t,sk,y',h1,rfl⟩:=zfz (z13 hb)
  exact zbc (hk.2 _ h1)

theorem zbd (R:Rep E w0 ok O σ tm w M) {h:Head} (hk:h.ok=true) {k:h.T→Option R0} (hg:h.get σ k=some res):∃ x M',k x=some res∧Rep E w0 ok O (h.fill x) tm w M':=by
 unfold Head.get at hg
 cases hp:h.pinned <;> rw [hp] at hg
 ·exact zyi R hk hg
 ·exact zyh R hk hg

theorem zo5 {n:Nat} {ex:List (Nat×Head)} (hex:ex.all (fun x=>x.2.ok)=true) {kx:Nat→St→Option R0} {Q:Exit→Act→World→Prop} {id:Nat} (h:z1k E w0 ok O res n (kx id) (Q (.exit id))):z1k E w0 ok O res n (zco ex kx id) (Q (.exit id)):=by
 intro w2 ok2 O2 hc σ a w M hk R hn hd
 unfold zco at hk
 split at hk
 ·rename_i hh hl
  have hok:=List.all_eq_true.1 hex _ (z13 hl)
  obtain ⟨x,M',h1,R'⟩:=zbd R hok hk
  exact h _ _ _ hc _ a w M' h1 R' hn hd
 ·cases hk

def zjn (n:Nat) (ops:Array Oper):Bool:=ops.toList.all fun o=>match o.dst with | some d=>Nat.blt d n | none=>true
def z4d (n:Nat):Code→Bool
 | .region _ ops _=>zjn n ops
 | .seq a b=>z4d n a&&z4d n b
 | .cond _ a b=>z4d n a&&z4d n b
 | .block _ c=>z4d n c
 | .loop c=>z4d n c
 | _=>true
def z4e:Code→List Code
 | .seq a b=>z4e a++z4e b
 | .cond _ a b=>z4e a++z4e b
 | .block _ c=>z4e c
 | .loop c=>c::z4e c
 | _=>[]
def z5f:Code→List Code
 | .seq a b=>b::(z5f a++z5f b)
 | .cond _ a b=>z5f a++z5f b
 | .block _ c=>z5f c
 | .loop c=>z5f c
 | _=>[]
def zg0 (E:Env) (LO:Oracles R0) (rd:St→Option R0) (b:Code) (f:St→(Nat→St→Option R0)→Option R0):Prop :=
 ∃ (h:Head) (ex:List (Nat×Head)) (F:Nat→h.T→(Nat→St→Option R0)→Option R0) (N:Nat),h.ok=true∧ex.all (fun x=>x.2.ok)=true∧(∀ x kx,F 0 x kx=none) ∧
  (∀ n x kx,F (n+1) x kx=evC E LO rd b (h.fill x) (fun σ=>h.get σ fun x'=>F n x' kx) (zco ex kx))∧(∀ σ kx,f σ kx=h.get σ fun x=>F N x kx)
def zo6 (E:Env) (LO:Oracles R0) (rd:St→Option R0) (b:Code) (f:St→(St→Option R0)→(Nat→St→Option R0)→Option R0):Prop :=
 ∃ (h hn:Head) (ex:List (Nat×Head)) (F:h.T→(St→Option R0)→(Nat→St→Option R0)→Option R0),h.ok=true∧hn.ok=true∧ex.all (fun x=>x.2.ok)=true ∧
  (∀ x kn kx,F x kn kx=evC E LO rd b (h.fill x) (fun σ=>hn.get σ fun y=>kn (hn.fill y)) (zco ex kx))∧(∀ σ kn kx,f σ kn kx=h.get σ fun x=>F x kn kx)
structure CodeOK (E:Env) (LO:Oracles R0) (rd:St→Option R0) (n:Nat) (c:Code):Prop where
 dst:z4d n c=true
 loops:∀ b∈z4e c,∀ f,LO.loop (z43 b)=some f→zg0 E LO rd b f
 cuts:∀ b∈z5f c,∀ f,LO.cut (z43 b)=some f→zo6 E LO rd b f

theorem zyj {n:Nat} {ops:Array Oper} (h:zjn n ops=true):∀ o∈ops.toList,∀ d,o.dst=some d→d<n:=by
 intro o ho d hd
 simp only [zjn,List.all_eq_true] at h
 have:=h o ho
 rw [hd] at this
 exact Nat.le_of_ble_eq_true this

theorem z1k.mono {n:Nat} {k:St→Option R0} {N N':Act→World→Prop} (h:z1k E w0 ok O res n k N) (hh:∀ a w,N a w→N' a w):z1k E w0 ok O res n k N' :=
 fun w1 ok1 O1 hc σ a w M h1 R hn hd=>hh a w (h w1 ok1 O1 hc σ a w M h1 R hn hd)

theorem z7k [Glob P] (T:zb P E.ti=true) (EQ:z1v P E) (hmix:P.follows .mixedOrders=true) {LO:Oracles R0} {rd:St→Option R0} {n:Nat}:∀ {c:Code},CodeOK E LO rd n c→∀ {w0:World} {ok O:Nat→Prop},SpecOK P E w0 O→z2l P E w0 O→∀ {kn:St→Option R0} {kx:Nat→St→Option R0} {Q:Exit→Act→World→Prop} {σ:St} {a:Act} {w:World} {M:Map},
  evC E LO rd c σ kn kx=some res→Rep E w0 ok O σ a.tmps w M→a.tmps.size=n→a.defers=[]→z1k E w0 ok O res n kn (Q .normal)→(∀ id,z1k E w0 ok O res n (kx id) (Q (.exit id)))→z1k E w0 ok O res n rd (Q .ret)→c.wp P Q a w
 | .skip,C,w0,ok,O,S,K,kn,kx,Q,σ,a,w,M,h,R,hn,hd,hkn,hkx,hrd=>wp_skip (hkn.at σ a w M h R hn hd)
 | .region id ops dr,C,w0,ok,O,S,K,kn,kx,Q,σ,a,w,M,h,R,hn,hd,hkn,hkx,hrd=>by
  have hB:=zyj C.dst
  cases dr with
  | false =>
   simp only [evC,cond_false] at h
   refine wp_region ?_
   have:=zj7 (P:=P) T EQ S K hB hkn ops.toList 0 σ a w M rfl h R hn hd
   rw [List.range_eq_range',← Array.length_toList]
   simpa using this
  | true =>
   simp only [evC,cond_true] at h
   have:=zy7 (P:=P) (id:=id) T EQ S K hmix hB hkn h R hn hd
   simpa using this
 | .seq x y,C,w0,ok,O,S,K,kn,kx,Q,σ,a,w,M,h,R,hn,hd,hkn,hkx,hrd=>by
  have hC:z4d n x=true∧z4d n y=true:=by simpa [z4d] using C.dst
  have Cx:CodeOK E LO rd n x:=⟨hC.1,fun b hb=>C.loops b (by simp [z4e,hb]),fun b hb=>C.cuts b (by simp [z5f,hb])⟩
  have Cy:CodeOK E LO rd n y:=⟨hC.2,fun b hb=>C.loops b (by simp [z4e,hb]),fun b hb=>C.cuts b (by simp [z5f,hb])⟩
  simp only [evC] at h
  refine wp_seq ?_
  cases hc:LO.cut (z43 y) with
  | none =>
   rw [hc] at h
   simp only [] at h
   exact z7k T EQ hmix Cx S K h R hn hd (fun w2 ok2 O2 hc σ1 a1 w1 M1 h1 R1 hn1 hd1=>z7k T EQ hmix Cy (S.chg hc) (K.chg hc) h1 R1 hn1 hd1 (hkn.chg hc) (fun id=>(hkx id).chg hc) (hrd.chg hc)) hkx hrd
  | some f =>
   rw [hc] at h
   simp only [] at h
   obtain ⟨hh,hk,ex,F,c1,c4,c5,c2,c3⟩:=C.cuts y (by simp [z5f]) f hc
   refine z7k T EQ hmix Cx S K h R hn hd (fun w2 ok2 O2 hc σ1 a1 w1 M1 h1 R1 hn1 hd1=>?_) hkx hrd
   rw [c3] at h1
   obtain ⟨x1,M2,h2,R2⟩:=zbd R1 c1 h1
   rw [c2] at h2
   refine z7k T EQ hmix Cy (S.chg hc) (K.chg hc) h2 R2 hn1 hd1 (fun w5 ok5 O5 hc5 σ3 a3 w3 M3 h3 R3 hn3 hd3=>?_) (fun id=>zo5 c5 ((hkx id).chg hc)) (hrd.chg hc)
   obtain ⟨x4,M4,h4,R4⟩:=zbd R3 c4 h3
   exact hkn _ _ _ (hc.trans hc5) _ a3 w3 M4 h4 R4 hn3 hd3
 | .cond x c1 c2,C,w0,ok,O,S,K,kn,kx,Q,σ,a,w,M,h,R,hn,hd,hkn,hkx,hrd=>by
  have hC:z4d n c1=true∧z4d n c2=true:=by simpa [z4d] using C.dst
  have Cx:CodeOK E LO rd n c1:=⟨hC.1,fun b hb=>C.loops b (by simp [z4e,hb]),fun b hb=>C.cuts b (by simp [z5f,hb])⟩
  have Cy:CodeOK E LO rd n c2:=⟨hC.2,fun b hb=>C.loops b (by simp [z4e,hb]),fun b hb=>C.cuts b (by simp [z5f,hb])⟩
  simp only [evC] at h
  split at h
  ·rename_i p hp
   have hv:=zin R rfl hp
   refine wp_cond hv ?_
   split at h
   ·rename_i hpt
    rw [hpt]
    exact z7k T EQ hmix Cx S K h R hn hd hkn hkx hrd
   ·rename_i hpf
    rw [if_neg hpf]
    exact z7k T EQ hmix Cy S K h R hn hd hkn hkx hrd
  ·cases h
 | .block id c,C,w0,ok,O,S,K,kn,kx,Q,σ,a,w,M,h,R,hn,hd,hkn,hkx,hrd=>by
  have Cx:CodeOK E LO rd n c:=⟨C.dst,C.loops,C.cuts⟩
  simp only [evC] at h
  refine wp_block (z7k T EQ hmix Cx S K h R hn hd hkn (fun j w2 ok2 O2 hc σ1 a1 w1 M1 h1 R1 hn1 hd1=>?_) hrd)
  simp only [z4m] at h1
  show if j=id then Q .normal a1 w1 else Q (.exit j) a1 w1
  by_cases hj:j=id
  ·rw [if_pos hj]
   simp only [hj,decide_true,cond_true] at h1
   exact hkn _ _ _ hc σ1 a1 w1 M1 h1 R1 hn1 hd1
  ·rw [if_neg hj]
   simp only [hj,decide_false,cond_false] at h1
   exact hkx j _ _ _ hc σ1 a1 w1 M1 h1 R1 hn1 hd1
 | .loop c,C,w0,ok,O,S,K,kn,kx,Q,σ,a,w,M,h,R,hn,hd,hkn,hkx,hrd=>by
  have Cx:CodeOK E LO rd n c:=⟨C.dst,fun b hb=>C.loops b (by simp [z4e,hb]),C.cuts⟩
  simp only [evC] at h
  split at h
  ·rename_i f hf
   obtain ⟨hh,ex,F,N,l1,l2,l3,l4,l5⟩:=C.loops c (by simp [z4e]) f hf
   rw [l5] at h
   obtain ⟨x,M',h1,R1⟩:=zbd R l1 h
   refine wp_loop_ghost (fun m a w=>∃ x M w2 ok2 O2,F m x kx=some res∧Chg E w0 ok O w2 ok2 O2∧Rep E w2 ok2 O2 (hh.fill x) a.tmps w M∧a.tmps.size=n∧a.defers=[]) N ⟨x,M',_,_,_,h1,.refl,R1,hn,hd⟩ ?_
   intro m a1 w1 ⟨x1,M1,w2,ok2,O2,h2,hc,R2,hn2,hd2⟩
   cases m with
   | zero=>rw [l3] at h2; cases h2
   | succ m =>
    rw [l4] at h2
    refine z7k T EQ hmix Cx (S.chg hc) (K.chg hc) h2 R2 hn2 hd2 (fun w5 ok5 O5 hc5 σ3 a3 w3 M3 h3 R3 hn3 hd3=>?_) (fun id=>zo5 l2 ((hkx id).chg hc)) (hrd.chg hc)
    obtain ⟨x4,M4,h4,R4⟩:=zbd R3 l1 h3
    exact ⟨m,Nat.lt_succ_self m,x4,M4,_,_,_,h4,hc.trans hc5,R4,hn3,hd3⟩
  ·cases h
 | .exit id,C,w0,ok,O,S,K,kn,kx,Q,σ,a,w,M,h,R,hn,hd,hkn,hkx,hrd=>wp_exit ((hkx id).at σ a w M h R hn hd)
 | .ret,C,w0,ok,O,S,K,kn,kx,Q,σ,a,w,M,h,R,hn,hd,hkn,hkx,hrd=>wp_ret (hrd.at σ a w M h R hn hd)
 | .goto l,C,w0,ok,O,S,K,kn,kx,Q,σ,a,w,M,h,R,hn,hd,hkn,hkx,hrd=>by cases h
 | .label l,C,w0,ok,O,S,K,kn,kx,Q,σ,a,w,M,h,R,hn,hd,hkn,hkx,hrd=>by cases h
theorem zdh [Glob P] (T:zb P E.ti=true) (EQ:z1v P E) (S:SpecOK P E w0 O) (K:z2l P E w0 O) (hmix:P.follows .mixedOrders=true) {LO:Oracles R0} {rd:St→Option R0} {n:Nat} {c:Code} (C:CodeOK E LO rd n c) {kn:St→Option R0} {kx:Nat→St→Option R0} {Q:Exit→Act→World→Prop} {σ:St} {a:Act} {w:World} {M:Map}
  (h:evC E LO rd c σ kn kx=some res) (R:Rep E w0 ok O σ a.tmps w M) (hn:a.tmps.size=n) (hd:a.defers=[]) (hkn:z1k E w0 ok O res n kn (Q .normal)) (hkx:∀ id,z1k E w0 ok O res n (kx id) (Q (.exit id))) (hrd:z1k E w0 ok O res n rd (Q .ret)):c.wp P Q a w :=
 z7k T EQ hmix C S K h R hn hd hkn hkx hrd
end

section
variable {P : Program} {E : Env} {w0 : World} {ok O : Nat → Prop} {σ σ' : St} {tm : Array Value} {w w' : World} {M M' : Map} {a : Act} {R0 : Type} {res : R0}

def z4f:Ty→Nat
 | .un=>0
 | .pr _ b=>z4f b+1
 | _=>1
theorem z8l {t:Ty} {l:List SVal} {k:t.T→Option R0} (h1:∀ s,z1p t [s] k=zf s.t t s.x k) (h0:z1p t [] k=none) (h2:∀ s s' l,z1p t (s::s'::l) k=none) (hn:z4f t=1) (hs:∀ (x:t.T) i,z4x t x i=[(i,.val t x)])
  (h:z1p t l k=some res) {vs:List Value} (ha:z1z w ok l vs):∃ x,k x=some res∧vs.length=z4f t∧∀ i j s,lk (z4x t x i) j=some s→∃ y,i≤j∧j<i+z4f t∧vs[j-i]?=some y∧(∃ u z,s=.val u z∧∃ cs,Rd w ok u z cs∧z1f u y cs):=by
 match l,vs,ha with
 | [],_,_=>rw [h0] at h; cases h
 | s::s'::l,_,_=>rw [h2] at h; cases h
 | [s],[v],ha =>
  rw [h1] at h
  obtain ⟨e,h⟩:=zbb h
  obtain ⟨st,sx⟩:=s
  dsimp only at e
  subst e
  refine ⟨sx,h,by rw [hn]; rfl,fun i j s' hj=>?_⟩
  rw [hs] at hj
  obtain ⟨rfl,rfl⟩:=z3m hj
  exact ⟨v,Nat.le_refl _,by omega,by simp,_,_,rfl,ha.1⟩
theorem zg1:∀ {t:Ty} {l:List SVal} {k:t.T→Option R0} {vs:List Value},z1p t l k=some res→z1z w ok l vs→∃ x,k x=some res∧vs.length=z4f t∧∀ i j s,lk (z4x t x i) j=some s→∃ y,i≤j∧j<i+z4f t∧vs[j-i]?=some y∧(∃ u z,s=.val u z∧∃ cs,Rd w ok u z cs∧z1f u y cs)
 | .un,l,k,vs,h,ha=>by
  match l,vs,ha with
  | [],[],_=>exact ⟨(),h,rfl,fun i j s hj=>by cases hj⟩
  | _::_,_,_=>cases h
 | .pr a b,l,k,vs,h,ha=>by
  match l,vs,ha with
  | [],_,_=>cases h
  | s::l,v::vs,ha =>
   simp only [z1p] at h
   obtain ⟨e,h⟩:=zbb h
   obtain ⟨st,sx⟩:=s
   dsimp only at e
   subst e
   obtain ⟨y,h1,h2,h3⟩:=zg1 (t:=b) h ha.2
   refine ⟨(sx,y),h1,by simp [z4f,h2],fun i j s' hj=>?_⟩
   simp only [z4x,zn] at hj
   split at hj
   ·rename_i e2
    subst e2
    cases hj
    exact ⟨v,Nat.le_refl _,by simp only [z4f]; omega,by simp,_,_,rfl,ha.1⟩
   ·obtain ⟨y',g1,g2,g3,g4⟩:=h3 (i+1) j s' hj
    refine ⟨y',by omega,by simp only [z4f]; omega,?_,g4⟩
    rw [show j-i=(j-(i+1))+1 by omega,List.getElem?_cons_succ]
    exact g3
 | .int i,l,k,vs,h,ha=>z8l (fun _=>rfl) rfl (fun _ _ _=>rfl) rfl (fun _ _=>rfl) h ha
 | .bool,l,k,vs,h,ha=>z8l (fun _=>rfl) rfl (fun _ _ _=>rfl) rfl (fun _ _=>rfl) h ha
 | .str,l,k,vs,h,ha=>z8l (fun _=>rfl) rfl (fun _ _ _=>rfl) rfl (fun _ _=>rfl) h ha
 | .sl e t,l,k,vs,h,ha=>z8l (fun _=>rfl) rfl (fun _ _ _=>rfl) rfl (fun _ _=>rfl) h ha
 | .st t,l,k,vs,h,ha=>z8l (fun _=>rfl) rfl (fun _ _ _=>rfl) rfl (fun _ _=>rfl) h ha
 | .ptr t,l,k,vs,h,ha=>z8l (fun _=>rfl) rfl (fun _ _ _=>rfl) rfl (fun _ _=>rfl) h ha
 | .fn g c,l,k,vs,h,ha=>z8l (fun _=>rfl) rfl (fun _ _ _=>rfl) rfl (fun _ _=>rfl) h ha
 | .fs ids,l,k,vs,h,ha=>z8l (fun _=>rfl) rfl (fun _ _ _=>rfl) rfl (fun _ _=>rfl) h ha

def Rv (P:Program) (tm:Array Value) (w:World) (r:ResultVar) (v:Value):Prop:=match r with
 | .tmp t=>tm.getD t undef=v
 | .cell a t=>∃ ad,tm.getD a undef=.pointer (some ad)∧(loadVar t ad).run P w=.ok v w
def Rvs (P:Program) (tm:Array Value) (w:World):List ResultVar→List Value→Prop
 | [],[]=>True
 | r::l,v::vs=>Rv P tm w r v∧Rvs P tm w l vs
 | _,_=>False
theorem zo7 {tm:Array Value} {i:Nat} {u:Value} (h:tm[i]?=some u):tm.getD i undef=u:=by rw [Array.getD_eq_getD_getElem?,h]; rfl

theorem zyk (t:Ty):∀ s:SV,Live σ s→Live σ (s.fit t):=by
 intro s hl
 induction s with
 | val u x=>cases u <;> simp only [SV.fit] <;> first | exact z2s _ _ | (cases t.isSt <;> exact z2s _ _)
 | st s ih =>
  simp only [SV.fit]
  cases t.isSt
  ·exact ih ⟨hl.rows,hl.boxes⟩
  ·exact hl
 | _=>exact hl

theorem zo8 (T:zb P E.ti=true) (R:Rep E w0 ok O σ tm w M) {r:ResultVar} {s:SV} (h:z82 E σ r=some s):∃ v,Rv P tm w r v∧zi w0 ok M s v:=by
 cases r with
 | tmp t =>
  obtain ⟨u,hu,hS⟩:=R.slots t s h
  exact ⟨u,zo7 hu,hS⟩
 | cell a t =>
  simp only [z82] at h
  split at h
  ·rename_i j q o hs
   split at h
   ·rename_i b hb
    split at h
    ·rename_i s' hp
     cases hk:(Nat.beq (b.c.offP q) o&&(s'.fit (E.tyOf t)).okW (E.tyOf t)) <;> rw [hk] at h
     ·cases h
     ·cases h
      simp only [Bool.and_eq_true] at hk
      obtain ⟨k1,k2⟩:=hk
      have k1:=Nat.eq_of_beq_eq_true k1
      obtain ⟨k3,k4,k5,_⟩:=zcz k2
      obtain ⟨cs',g1,g2,g3⟩:=R.boxes j b hb
      obtain ⟨u,hu,cs,h3,h4⟩:=R.slots a _ hs
      simp only [za] at h3
      subst h3
      have hv:u=.pointer (some ⟨M.blk j,o,none⟩):=by
       rcases h4 with ⟨h5,_⟩ | ⟨_,h5⟩
       ·cases h5
       ·simp only [List.cons.injEq,and_true] at h5; exact h5.symm
      have hnc:b.c.isCh=false:=by
       cases hc:b.c with
       | nl =>
        rw [hc] at hp
        cases q with
        | nil=>cases hp; exact absurd k4.symm k5
        | cons x y=>cases hp
       | cns x y =>
        rw [hc] at hp
        cases q with
        | nil=>cases hp; exact absurd k4.symm k5
        | cons x y=>cases hp
       | _=>rfl
      obtain ⟨p1,p2,ds,rfl,e1,e2⟩:=z78 (zaq g1 hnc) hp
      have hf:=zih (t:=E.tyOf t) e2
      have hcell:=(zar g2).mid
      rw [e1,k1,Nat.zero_add] at hcell
      obtain ⟨z,hz,hw⟩:=zax (P:=P) T hf k3 (by rw [za.len hf,k4]) k5 hcell
      exact ⟨z,⟨_,by rw [zo7 hu,hv],hz⟩,z1m hf hw⟩
    ·cases h
   ·cases h
  ·cases h

theorem zjo (T:zb P E.ti=true):∀ {rs:List ResultVar} {t:Ty} {σ:St} {k:St→t.T→Option R0},Rep E w0 ok O σ tm w M→zcp E rs t σ k=some res →
  ∃ σ' l vs,k σ' (erase t l)=some res∧holds (Rd w0 ok) w t l∧plain w t l∧Eaten E w0 ok O σ σ' tm w M (z6 t l)∧Rvs P tm w rs vs∧(rs.length=0∧t=.un∨0<rs.length∧zd5 rs.length t l vs)
 | [],t,σ,k,R,h=>by
  cases t with
  | un=>exact ⟨σ,(),[],h,trivial,trivial,⟨R,Free.nil,z4b.nil,Sub.refl σ⟩,trivial,.inl ⟨rfl,rfl⟩⟩
  | _=>cases h
 | r::l,t,σ,k,R,h=>by
  simp only [zcp] at h
  split at h
  ·rename_i s hs
   obtain ⟨u,hu,hS⟩:=zo8 T R hs
   match l,h with
   | [],h =>
    rcases z34 hS with rfl | ⟨c,vs,rfl,_,_⟩ | ⟨cs,h4,h5⟩
    ·cases h
    ·cases h
    ·obtain ⟨σ1,v,x,g1,g2,g3,g4,g5,g6⟩:=z5d depth w0 ok O σ tm w M s cs _ R h4 h
     obtain ⟨e,g1⟩:=zbb g1
     subst e
     refine ⟨σ1,x,[u],g1,g2,g3,g6,⟨hu,trivial⟩,.inr ⟨Nat.succ_pos _,u,rfl,?_⟩⟩
     unfold z1f
     rw [← g5,g4]; exact h5
   | r2::l2,h =>
    cases t with
    | pr a b =>
     rcases z34 hS with rfl | ⟨c,vs,rfl,_,_⟩ | ⟨cs,h4,h5⟩
     ·cases h
     ·cases h
     ·obtain ⟨σ1,v,x,g1,g2,g3,g4,g5,g6⟩:=z5d depth w0 ok O σ tm w M s cs _ R h4 h
      obtain ⟨e,g1⟩:=zbb g1
      subst e
      obtain ⟨σ2,y,vs,k1,k2,k3,k4,k7,k5⟩:=zjo T (rs:=r2::l2) (t:=b) g6.rep g1
      refine ⟨σ2,(x,y),u::vs,k1,⟨g2,k2⟩,⟨g3,k3⟩,⟨k4.rep,g6.free.append k4.free k4.sub k4.src,g6.src.append k4.src g6.sub,k4.sub.trans g6.sub⟩,⟨hu,k7⟩,.inr ⟨Nat.succ_pos _,?_⟩⟩
      rcases k5 with ⟨h9,_⟩ | ⟨_,k6⟩
      ·simp at h9
      ·refine ⟨u,vs,rfl,?_,k6⟩
       unfold z1f
       rw [← g5,g4]; exact h5
    | _=>cases h
  ·cases h

theorem zdi {fn:Func} {rs:List ResultVar} (h:fn.results.toList=rs) {tm:Array Value} {w:World} {vs:List Value} (hv:Rvs P tm w rs vs):(results fn tm).run P w=.ok (if h:vs.toArray.size=1 then vs.toArray[0] else .tuple vs.toArray) w:=by
 have hm:∀ (l:List ResultVar) (vs:List Value),Rvs P tm w l vs→(l.mapM (m:=Sem) fun | .tmp t=>pure (tm.getD t undef) | .cell a t=>do loadVar t (← asAddr (tm.getD a undef))).run P w=.ok vs w:=by
  intro l
  induction l with
  | nil=>intro vs hv; match vs,hv with | [],_=>rfl
  | cons r l ih =>
   intro vs hv
   match vs,hv with
   | v::vs,hv =>
    have e:=ih vs hv.2
    have hr:((fun | .tmp t=>pure (tm.getD t undef) | .cell a t=>do loadVar t (← asAddr (tm.getD a undef)):ResultVar→Sem Value) r).run P w=.ok v w:=by
     cases r with
     | tmp t=>have h1:tm.getD t undef=v:=hv.1; simp only [h1]; rfl
     | cell a t =>
      obtain ⟨ad,h1,h2⟩:=hv.1
      simp only [h1,asAddr,Sem.run_bind,Sem.run_pure,Result.andThen_ok]
      exact h2
    simp only [List.mapM_cons,Sem.run_bind,hr,Result.andThen_ok,e,Sem.run_pure]
 have hA:(fn.results.mapM (m:=Sem) fun | .tmp t=>pure (tm.getD t undef) | .cell a t=>do loadVar t (← asAddr (tm.getD a undef))).run P w=.ok vs.toArray w:=by
  rw [Array.mapM_eq_mapM_toList,h]
  have e:=hm rs vs hv
  show (Sem.bind _ _).run P w=_
  rw [show ∀ (x:Sem (List Value)) (f:List Value→Sem (Array Value)),(Sem.bind x f).run P w=(x.run P w).andThen fun a w'=>(f a).run P w' from fun x f=>Sem.run_bind (P:=P) (x:=x) (f:=f) (w:=w),e]
  rfl
 unfold results
 rw [Sem.run_bind]
 exact (congrArg (fun z=>Result.andThen z _) hA).trans rfl
end

section
variable {P : Program} {E : Env} {w0 : World} {ok O : Nat → Prop} {σ σ' : St} {tm : Array Value} {w w' : World} {M M' : Map} {a : Act} {R0 : Type} {res : R0}

theorem z7l {g : FuncId} {fn : Func} {c : Code} (hf : P.funcs[g]? = some fn) (hb : fn.body = some c) (hn : (fn.name == "runtime.NumGoroutine") = false) (vs : Array Value) (w : World) : (callFunc g vs).run P w = .ok (.enter g vs) w := by
 have hp:(program:Sem Program).run P w=.ok P w:=rfl
 unfold callFunc
 rw [Sem.run_bind,hp]
 simp only [Result.andThen_ok,hf,hn,hb,Option.isNone_some,Bool.false_eq_true,if_false]
 rfl

structure FnR (P:Program) (E:Env) (g:FuncId) (ts:Ty) (n:Nat) (t:Ty) (F:ts.T→Option t.T):Prop where
 ex : ∃ (fn : Func) (c : Code) (rs : List ResultVar) (LO : Oracles t.T), P.funcs[g]? = some fn ∧ fn.body = some c ∧ (fn.name == "runtime.NumGoroutine") = false ∧ fn.results.toList = rs ∧ rs.length = n ∧ z4f ts ≤ fn.ntmps ∧
  CodeOK E LO (rdC E rs t) fn.ntmps c∧∀ x,evC E LO (rdC E rs t) c ⟨z4x ts x 0,[],[]⟩ (rdC E rs t) (fun _ _=>none)=F x

theorem zo9 (hok:∀ k,ok k→k<w.heap.size) {ts:Ty} {x:ts.T} {vs:List Value} (h:∀ i j s,lk (z4x ts x i) j=some s→∃ y,i≤j∧j<i+z4f ts∧vs[j-i]?=some y∧(∃ u z,s=.val u z∧∃ cs,Rd w ok u z cs∧z1f u y cs)) (m:Nat) :
  Rep E w ok (fun _=>False) ⟨z4x ts x 0,[],[]⟩ (vs.toArray++Array.replicate m undef) w ⟨fun _=>⟨.un,()⟩,fun _=>0,fun _=>0,fun _=>0⟩ where
 slots:=fun s v hv=>by
  obtain ⟨y,_,h2,h3,u,z,rfl,cs,h5,h6⟩:=h 0 s v hv
  rw [Nat.sub_zero] at h3
  have hlt:=(List.getElem?_eq_some_iff.1 h3).1
  refine ⟨y,?_,z1m (s:=.val u z) h5 (by unfold z2h; rw [z66]; exact h6)⟩
  rw [Array.getElem?_append_left (by simpa using hlt)]
  simpa using h3
 rows:=fun i r hr=>by cases hr
 boxes:=fun i b hb=>by cases hb
 rr:=fun i j _ ⟨r,hr⟩=>by cases hr
 bb:=fun i j _ ⟨r,hr⟩=>by cases hr
 rb:=fun i j ⟨r,hr⟩=>by cases hr
 ownR:=fun i ⟨r,hr⟩=>by cases hr
 ownB:=fun i ⟨r,hr⟩=>by cases hr
 okB:=fun k hk=>⟨hok k hk,fun h=>h⟩
 liveS:=fun s v hv=>by
  obtain ⟨y,_,_,_,u,z,rfl,_⟩:=h 0 s v hv
  exact z2s u z
 liveB:=fun i b hb=>by cases hb
 kept:=Kept.refl _ _
 pin:=fun i _ ⟨r,hr⟩=>by cases hr
 pinB:=fun i _ ⟨r,hr⟩=>by cases hr

theorem zyl {ts:Ty} {x:ts.T} {vs:List Value} (h:∀ i j s,lk (z4x ts x i) j=some s→∃ y,i≤j∧j<i+z4f ts∧vs[j-i]?=some y∧(∃ u z,s=.val u z∧∃ cs,Rd w (Lt w) u z cs∧z1f u y cs)) (m:Nat) :
  Rep E w (Lt w) (fun _=>False) ⟨z4x ts x 0,[],[]⟩ (vs.toArray++Array.replicate m undef) w ⟨fun _=>⟨.un,()⟩,fun _=>0,fun _=>0,fun _=>0⟩ where
 slots:=fun s v hv=>by
  obtain ⟨y,_,h2,h3,u,z,rfl,cs,h5,h6⟩:=h 0 s v hv
  rw [Nat.sub_zero] at h3
  have hlt:=(List.getElem?_eq_some_iff.1 h3).1
  refine ⟨y,?_,z1m (s:=.val u z) h5 (by unfold z2h; rw [z66]; exact h6)⟩
  rw [Array.getElem?_append_left (by simpa using hlt)]
  simpa using h3
 rows:=fun i r hr=>by cases hr
 boxes:=fun i b hb=>by cases hb
 rr:=fun i j _ ⟨r,hr⟩=>by cases hr
 bb:=fun i j _ ⟨r,hr⟩=>by cases hr
 rb:=fun i j ⟨r,hr⟩=>by cases hr
 ownR:=fun i ⟨r,hr⟩=>by cases hr
 ownB:=fun i ⟨r,hr⟩=>by cases hr
 okB:=fun k hk=>⟨hk,fun h=>h⟩
 liveS:=fun s v hv=>by
  obtain ⟨y,_,_,_,u,z,rfl,_⟩:=h 0 s v hv
  exact z2s u z
 liveB:=fun i b hb=>by cases hb
 kept:=Kept.refl _ _
 pin:=fun i _ ⟨r,hr⟩=>by cases hr
 pinB:=fun i _ ⟨r,hr⟩=>by cases hr

theorem zjp {tm:Array Value}:∀ {rs:List ResultVar} {vs:List Value},Rvs P tm w rs vs→vs.length=rs.length
 | [],[],_=>rfl
 | r::l,v::vs,h=>by simp [zjp h.2]
 | [],_::_,h=>h.elim
 | _::_,[],h=>h.elim
theorem zoa {n m:Nat} {t:Ty} {l:L t} {vs:List Value} (hl:vs.length=m) (hn:m=n) (h:m=0∧t=.un∨0<m∧zd5 m t l vs) :
  zd6 n t l (if h:vs.toArray.size=1 then vs.toArray[0] else .tuple vs.toArray):=by
 subst hn
 subst hl
 unfold zd6
 match vs,h with
 | [],h=>exact ⟨_,rfl,rfl⟩
 | [v],.inr ⟨_,v',hv,hw⟩ =>
  cases hv
  exact hw
 | [v],.inl h=>simp at h
 | v::v2::vs,.inr ⟨_,h⟩ =>
  rw [if_neg (by simp)]
  refine ⟨_,dif_neg (by simp),by simpa using h⟩
 | v::v2::vs,.inl h=>simp at h

theorem FnR.does [Glob P] (T:zb P E.ti=true) (EQ:z1v P E) {w:World} (S:SpecOK P E w (fun _=>False)) (K:z2l P E w (fun _=>False)) (hmix:P.follows .mixedOrders=true) {g:FuncId} {ts:Ty} {n:Nat} {t:Ty} {F:ts.T→Option t.T} (H:FnR P E g ts n t F)
  {args:List SVal} {vs:List Value} (ha:z6m w args vs) {x:ts.T} (hx:z1p ts args some=some x) {r:t.T} (hr:F x=some r):z25 P g vs.toArray w (Ret w n t r):=by
 obtain ⟨fn,c,rs,LO,h1,h2,h3,h4,h5,h6,h7,h8⟩:=H.ex
 unfold z25
 rw [z7l h1 h2 h3]
 simp only []
 obtain ⟨x',hx',hlen,hsl⟩:=zg1 hx ha
 cases hx'
 refine calls_of_wp h1 h2 ?_
 have hrd:∀ e:Exit,(e=.normal∨e=.ret)→z1k E w (Lt w) (fun _=>False) r fn.ntmps (rdC E rs t) (bodyPost P fn (fun | .returned v,w''=>Ret w n t r v w'' | _,_=>False) e):=by
  intro e he w2 ok2 O2 hc σ1 a1 w1 M1 hk R1 hn1 hd1
  unfold rdC at hk
  cases hnr:t.noRd <;> rw [hnr] at hk
  ·cases hk
  simp only [cond_true] at hk
  obtain ⟨σ2,l,vs2,g1,g2,g3,g4,g6,g5⟩:=zjo T R1 hk
  have hb:a1.defers=[]∧∃ v,(results fn a1.tmps).run P w1=.ok v w1∧Ret w n t r v w1:=by
   refine ⟨hd1,_,zdi h4 g6,l,?_,fun F=>zce hnr g2,g3,g4.free.nd,fun k hk=>?_,zoa (zjp g6) h5 g5,hc.kept R1.kept⟩
   ·have:=Option.some.inj g1
    rw [← this]
   ·rcases (g4.free.own k hk).2 with h | h
    ·exact (hc.own h).elim False.elim id
    ·exact Nat.le_trans (hc.kept (.refl _ _)).size h
  rcases he with rfl | rfl
  ·exact hb
  ·exact hb
 have hev:=h8 x
 rw [hr] at hev
 refine zdh T EQ S K hmix h7 hev (zyl hsl (fn.ntmps-vs.toArray.size)) (by simp only [Array.size_append,Array.size_replicate,List.size_toArray,hlen]; omega) rfl (hrd _ (.inl rfl)) (fun id=>?_) (hrd _ (.inr rfl))
 intro w2 ok2 O2 hc σ1 a1 w1 M1 hk
 cases hk
end

section
variable {P : Program} {R0 : Type} {res : R0}

theorem zjq:∀ (t:Ty) (l:List SVal) {R:Type} (k:t.T→Option R),z1p t l k=(z1p t l some).bind k
 | .un,[],R,k=>rfl
 | .un,_::_,R,k=>rfl
 | .pr a b,[],R,k=>rfl
 | .pr a b,s::l,R,k=>by
  simp only [z1p]
  rw [z4y,z4y s.t a s.x (fun x=>z1p b l fun y=>some (x,y)),Option.bind_assoc]
  congr 1
  funext x
  rw [zjq b l,zjq b l (fun y=>some (x,y)),Option.bind_assoc]
  rfl
 | .int i,l,R,k=>by match l with | []=>rfl | [s]=>exact z4y _ _ _ _ | _::_::_=>rfl
 | .bool,l,R,k=>by match l with | []=>rfl | [s]=>exact z4y _ _ _ _ | _::_::_=>rfl
 | .str,l,R,k=>by match l with | []=>rfl | [s]=>exact z4y _ _ _ _ | _::_::_=>rfl
 | .sl e t,l,R,k=>by match l with | []=>rfl | [s]=>exact z4y _ _ _ _ | _::_::_=>rfl
 | .st t,l,R,k=>by match l with | []=>rfl | [s]=>exact z4y _ _ _ _ | _::_::_=>rfl
 | .ptr t,l,R,k=>by match l with | []=>rfl | [s]=>exact z4y _ _ _ _ | _::_::_=>rfl
 | .fn g c,l,R,k=>by match l with | []=>rfl | [s]=>exact z4y _ _ _ _ | _::_::_=>rfl
 | .fs ids,l,R,k=>by match l with | []=>rfl | [s]=>exact z4y _ _ _ _ | _::_::_=>rfl
 | .rd t,l,R,k=>by match l with | []=>rfl | [s]=>rfl | _::_::_=>rfl

def zc (P:Program) [Glob P] (g:FuncId) (fe:FE):Prop:=(fe.n<RON→∀ args vs w x r,Glob.ok P w→z6m w args vs→z1p fe.ts args some=some x→fe.F x=some r→z25 P g vs.toArray w (Ret w fe.n fe.t r)) ∧
 (fe.n=RON→∀ args vs w ok x r,Glob.ok P w→(∀ k,ok k→k<w.heap.size)→z1z w ok args vs→z1p fe.ts args some=some x→fe.F x=some r→z25 P g vs.toArray w (zd9 w ok fe.t r)) ∧
 (RON<fe.n→∀ args vs w ok x r,Glob.ok P w→(∀ k,ok k→k<w.heap.size)→z1z w ok args vs→z1p fe.ts args some=some x→fe.F x=some r→z25 P g vs.toArray w (zay w ok (fe.n-NBN) fe.t r))
theorem zc.new {P:Program} [Glob P] {g:FuncId} {fe:FE} (hn:Nat.blt fe.n RON=true) (h:∀ args vs w x r,Glob.ok P w→z6m w args vs→z1p fe.ts args some=some x→fe.F x=some r→z25 P g vs.toArray w (Ret w fe.n fe.t r)):zc P g fe :=
 ⟨fun _=>h,fun e=>by rw [e] at hn; simp at hn,fun e=>absurd (Nat.le_of_ble_eq_true hn) (by omega)⟩
theorem zg2 [Glob P]:∀ {tab:List (Nat×FE)},(∀ e∈tab,zc P e.1 e.2)→∀ {g:Nat} {args:List SVal} {n:Nat} {t:Ty} {r:t.T},zam tab g args=some ⟨n,t,some r⟩→∃ fe x,zc P g fe∧fe.n=n∧∃ e:fe.t=t,z1p fe.ts args some=some x∧fe.F x=some (e▸r)
 | [],_,g,args,n,t,r,h=>by cases h
 | (g',fe)::l,H,g,args,n,t,r,h=>by
  simp only [zam] at h
  have ih:zam l g args=some ⟨n,t,some r⟩→_:=fun h=>zg2 (tab:=l) (fun e he=>H e (List.mem_cons_of_mem _ he)) h
  cases hb:Nat.beq g' g <;> rw [hb] at h
  ·exact ih h
  ·have hg:=Nat.eq_of_beq_eq_true hb
   subst hg
   simp only [cond_true] at h
   rw [zjq] at h
   cases hx:z1p fe.ts args some with
   | none=>rw [hx] at h; exact ih h
   | some x =>
    rw [hx] at h
    simp only [Option.bind_some,Option.some.injEq] at h
    have e1:fe.n=n:=congrArg CR.n h
    have e2:fe.t=t:=congrArg CR.t h
    subst e1; subst e2
    injection h with _ _ h4
    exact ⟨fe,x,H (g',fe) (List.mem_cons_self),rfl,rfl,hx,h4⟩
theorem SpecOK.of [Glob P] {ti:List TI} {tab:List (Nat×FE)} {opn:Nat→Option (FuncId×OC)} {pins:Nat→Value} {pinB:Nat→Nat} (H:∀ e∈tab,zc P e.1 e.2)  {w0:World} {O:Nat→Prop} (G:z5c P w0 O):SpecOK P (zq ti tab opn pins pinB) w0 O :=
 ⟨fun g args n t r hc hn w vs hkp ha=>by
   obtain ⟨fe,x,h1,h2,h3,h4,h5⟩:=zg2 H hc
   subst h2
   subst h3
   exact h1.1 hn args vs w x r (G.now hkp) ha h4 h5,
  fun g args t r hc w ok vs hkp hk ha=>by
   obtain ⟨fe,x,h1,h2,h3,h4,h5⟩:=zg2 H hc
   subst h3
   exact h1.2.1 h2 args vs w ok x r (G.now hkp) hk ha h4 h5,
  fun g args n t r hc hn w ok vs hkp hk ha=>by
   obtain ⟨fe,x,h1,h2,h3,h4,h5⟩:=zg2 H hc
   subst h2
   subst h3
   exact h1.2.2 hn args vs w ok x r (G.now hkp) hk ha h4 h5⟩
theorem FnR.contract [Glob P] {ti:List TI} {tab:List (Nat×FE)} {opn:Nat→Option (FuncId×OC)} {pins:Nat→Value} {pinB:Nat→Nat} (T:zb P ti=true) (EQ:z1v P (zq ti tab opn pins pinB)) (K:∀ w,z5c P w (fun _=>False)→z2l P (zq ti tab opn pins pinB) w (fun _=>False)) (hmix:P.follows .mixedOrders=true) (S:∀ e∈tab,zc P e.1 e.2) {g:FuncId} {ts:Ty} {n:Nat} {t:Ty} {F:ts.T→Option t.T}
  (H:FnR P (zq ti tab opn pins pinB) g ts n t F) (hn:Nat.blt n RON=true):zc P g ⟨ts,n,t,F⟩ :=
 zc.new hn fun args vs w x r G ha hx hr=>H.does T EQ (SpecOK.of S (.new G)) (K w (.new G)) hmix ha hx hr
end

def Ty.ht:Ty→Nat
 | .st t=>t.ht+1
 | .pr a b=>max a.ht b.ht
 | _=>1
section
variable {P : Program} {E : Env} {w : World}

theorem zg3 (T:zb P E.ti=true) {f:TypeId} (h0:(E.tyOf f).sz≠0) {w1:World} {okk:Nat→Prop} {x:(E.tyOf f).T} {p a c:List Value} (hr:Rd w1 okk (E.tyOf f) x a):∃ v,(part f (p++a++c).toArray p.length).run P w=.ok v w∧z1f (E.tyOf f) v a:=by
 obtain ⟨ti,k1,k2,k3⟩:=z49 T h0
 obtain ⟨m1,m2,_⟩:=z97 T k1 k3 w
 rw [k2] at m1 m2
 have hl:=Rd.len hr
 unfold part
 cases hst:(E.tyOf f).isSt with
 | true =>
  rw [hst] at m1
  refine ⟨.agg a.toArray,?_,.inl ⟨hst,rfl⟩⟩
  simp only [Sem.run_bind,m1,Result.andThen_ok,if_true,m2,Sem.run_pure]
  congr 2
  rw [← hl]
  apply Array.ext'
  simp
 | false =>
  rw [hst] at m1
  have h1:=zmd T h0 hst
  rw [h1] at hl
  match a,hl with
  | [v],_ =>
   refine ⟨v,?_,.inr ⟨hst,rfl⟩⟩
   simp only [Sem.run_bind,m1,Result.andThen_ok,Bool.false_eq_true,if_false]
   have:(p++[v]++c).toArray[p.length]?=some v:=by simp
   rw [this]
   rfl

def zob (P:Program) (E:Env) (d:Nat):Prop:=∀ (t:TypeId),(E.tyOf t).flat=true→(E.tyOf t).ht≤d→∀ (w:World) (x y:(E.tyOf t).T) (cs ds:List Value) (ok ok':Nat→Prop) (vx vy:Value),
 Rd w ok (E.tyOf t) x cs→Rd w ok' (E.tyOf t) y ds→z1f (E.tyOf t) vx cs→z1f (E.tyOf t) vy ds→∃ b,(Op.equalIn d t vx vy).run P w=.ok b w∧(b=true↔x=y)

theorem zoc (T : zb P E.ti = true) {d : Nat} (H : zob P E d) {w : World} {ok ok' : Nat → Prop} : ∀ (fl : List Field) (n : Nat) (u : Ty), z4k E.ti (fl.map fun f => (f.type, f.offset)) n = some u → u.flat = true → u.ht ≤ d → (∀ f ∈ fl, f.name ≠ "_") →
  ∀ (x y:u.T) (p p' cs ds:List Value),p.length=n→p'.length=n→Rd w ok u x cs→Rd w ok' u y ds→∃ b,(Op.eqFields d (p++cs).toArray (p'++ds).toArray fl).run P w=.ok b w∧(b=true↔x=y)
 | [],n,u,h,_,_,_,_,_,_,_,_,_,_,_,_,_=>by cases h
 | [f],n,u,h,hf,hh,hnm,x,y,p,p',cs,ds,hp,hp',hx,hy=>by
  simp only [List.map_cons,List.map_nil,z4k] at h
  cases hb:(Nat.beq f.offset n&&!Nat.beq (z14 E.ti f.type).sz 0) <;> rw [hb] at h
  ·cases h
  ·cases h
   simp only [Bool.and_eq_true,Bool.not_eq_true'] at hb
   have ho:=Nat.eq_of_beq_eq_true hb.1
   have h0:(E.tyOf f.type).sz≠0:=z48 hb.2
   obtain ⟨v1,e1,e2⟩:=zg3 (w:=w) (p:=p) (c:=[]) T h0 hx
   obtain ⟨v2,e3,e4⟩:=zg3 (w:=w) (p:=p') (c:=[]) T h0 hy
   rw [List.append_nil,hp,← ho] at e1
   rw [List.append_nil,hp',← ho] at e3
   obtain ⟨b,e5,e6⟩:=H f.type hf hh w x y cs ds ok ok' v1 v2 hx hy e2 e4
   refine ⟨b,?_,e6⟩
   simp only [Op.eqFields]
   rw [if_pos (hnm f (by simp))]
   simp only [Sem.run_bind,e1,Result.andThen_ok,e3,e5]
   cases b <;> simp
 | f::f2::fl,n,u,h,hf,hh,hnm,x,y,p,p',cs,ds,hp,hp',hx,hy=>by
  simp only [List.map_cons,z4k] at h
  cases hb:(Nat.beq f.offset n&&!Nat.beq (z14 E.ti f.type).sz 0) <;> rw [hb] at h
  ·cases h
  ·simp only [cond_true] at h
   split at h
   ·rename_i u' hu
    cases h
    simp only [Bool.and_eq_true,Bool.not_eq_true'] at hb
    simp only [Ty.flat,Bool.and_eq_true] at hf
    simp only [Ty.ht] at hh
    have ho:=Nat.eq_of_beq_eq_true hb.1
    have h0:(E.tyOf f.type).sz≠0:=z48 hb.2
    obtain ⟨c1,c2,rfl,x1,x2⟩:=hx
    obtain ⟨d1,d2,rfl,y1,y2⟩:=hy
    obtain ⟨v1,e1,e2⟩:=zg3 (w:=w) (p:=p) (c:=c2) T h0 x1
    obtain ⟨v2,e3,e4⟩:=zg3 (w:=w) (p:=p') (c:=d2) T h0 y1
    rw [hp,← ho,List.append_assoc] at e1
    rw [hp',← ho,List.append_assoc] at e3
    obtain ⟨b,e5,e6⟩:=H f.type hf.1 (Nat.le_trans (Nat.le_max_left _ _) hh) w x.1 y.1 c1 d1 ok ok' v1 v2 x1 y1 e2 e4
    have l1:(p++c1).length=n+(z14 E.ti f.type).sz:=by rw [List.length_append,hp,Rd.len x1]
    have l2:(p'++d1).length=n+(z14 E.ti f.type).sz:=by rw [List.length_append,hp',Rd.len y1]
    obtain ⟨b2,g1,g2⟩:=zoc T H (f2::fl) (n+(z14 E.ti f.type).sz) u' hu hf.2 (Nat.le_trans (Nat.le_max_right _ _) hh) (fun q hq=>hnm q (by simp only [List.mem_cons] at hq ⊢; exact .inr hq)) x.2 y.2 (p++c1) (p'++d1) c2 d2 l1 l2 x2 y2
    rw [List.append_assoc,List.append_assoc] at g1
    refine ⟨b&&b2,?_,?_⟩
    ·rw [Op.eqFields,if_pos (hnm f (by simp))]
     simp only [Sem.run_bind,e1,Result.andThen_ok,e3,e5]
     cases b with
     | false=>simp
     | true=>simp only [Bool.not_true,Bool.false_eq_true,if_false,Bool.true_and]; exact g1
    ·rw [Bool.and_eq_true,e6,g2]
     constructor
     ·rintro ⟨h1,h2⟩; exact Prod.ext h1 h2
     ·intro h; rw [h]; exact ⟨rfl,rfl⟩
   ·cases h

theorem zym {t:Ty} (h:t.flat=true):0<t.ht:=by
 induction t with
 | pr a b iha ihb=>simp only [Ty.flat,Bool.and_eq_true] at h; have:=iha h.1; simp only [Ty.ht]; omega
 | st t ih=>simp only [Ty.ht]; omega
 | _=>simp [Ty.ht]

theorem zod (T:zb P E.ti=true):∀ d,zob P E d
 | 0=>fun t hf hh=>by have:=zym hf; omega
 | d+1=>by
  intro t hf hh w x y cs ds ok ok' vx vy hx hy wx wy
  obtain ⟨ti,k1,k2,k3⟩:=z49 T (zcx hf)
  obtain ⟨sh,ty,b⟩:=ti
  dsimp only at k2 k3
  have hsh:=(z2f T k1 k3).2
  have key:∀ (τ:Ty) (e:ty=τ) (hτ:E.tyOf t=τ),τ.flat=true→τ.ht≤d+1→∀ (x y:τ.T),Rd w ok τ x cs→Rd w ok' τ y ds→z1f τ vx cs→z1f τ vy ds→∃ b,(Op.equalIn (d+1) t vx vy).run P w=.ok b w∧(b=true↔x=y):=by
   intro τ e hτ hf hh x y hx hy wx wy
   unfold z3c at hsh
   split at hsh <;> rename_i g1 g2 g3
   ·have g3':ty=_:=g3
    rw [g3'] at e
    subst e
    rw [z86 hx wx,z86 hy wy]
    exact ⟨_,run_equalIn_int (P:=P) w d t _ _ _ _ g2,by simp⟩
   ·have g3':ty=_:=g3
    rw [g3'] at e
    subst e
    rw [zcw hx wx,zcw hy wy]
    exact ⟨_,run_equalIn_bool' (P:=P) w d t _ _ g2,by simp⟩
   ·have g3':ty=_:=g3
    rw [g3'] at e
    subst e
    rw [z87 hx wx,z87 hy wy]
    refine ⟨_,run_equalIn_string (P:=P) w d t _ _ g2,?_⟩
    simp
   ·have g3':ty=_:=g3
    rw [g3'] at e
    subst e
    cases hf
   ·have g3':ty=_:=g3
    rw [g3'] at e
    subst e
    cases hf
   ·have g3':ty=_:=g3
    rw [g3'] at e
    subst e
    cases hf
   ·have g3':ty=_:=g3
    rw [g3'] at e
    subst e
    rename_i fs fields u
    have g1':sh=.st fs:=g1
    subst g1'
    subst g3'
    obtain ⟨fields',u',h1,h2,h3,h4,h5⟩:=zav T k1
    cases h3
    obtain ⟨h6,h7,h8⟩:=h5 hf
    have hfo:P.fieldsOf t=fields':=by unfold Program.fieldsOf; rw [h1]
    rcases wx with ⟨_,rfl⟩ | ⟨h,_⟩
    ·rcases wy with ⟨_,rfl⟩ | ⟨h,_⟩
     ·rw [run_equalIn_struct w d t _ _ (by rw [h1,hfo]) h6,hfo]
      simp only [Ty.ht] at hh
      have:=zoc T (zod T d) (w:=w) fields'.toList 0 u (by rw [h2]; exact h4) hf (by omega) h8 x y [] [] cs ds rfl rfl hx hy
      simpa using this
     ·cases h
    ·cases h
   ·cases hsh
  exact key _ k2 rfl hf hh x y hx hy wx wy

def z52 (ti:List TI):Bool:=ti.all fun i=>Nat.ble i.ty.ht 9999
theorem z1v.of (T:zb P E.ti=true) (H:z52 E.ti=true):z1v P E:=by
 intro t fs u b hf ht w x y cs ds ok ok' hx hy
 have htyof:E.tyOf t=.st u:=by simp [Env.tyOf,ht]
 have hht:(Ty.st u).ht≤10000:=by
  simp only [z52,List.all_eq_true] at H
  have:=Nat.le_of_ble_eq_true (H _ (List.mem_of_getElem? ht))
  have h2:(Ty.st u).ht≤9999:=this
  omega
 have key:∀ (τ:Ty) (e:E.tyOf t=τ) (hf:τ.flat=true) (hh:τ.ht≤10000) (x y:τ.T),Rd w ok τ x cs→Rd w ok' τ y ds→z1f τ (.agg cs.toArray) cs→z1f τ (.agg ds.toArray) ds→∃ b,(Op.equalIn 10000 t (.agg cs.toArray) (.agg ds.toArray)).run P w=.ok b w∧(b=true↔x=y):=by
  intro τ e
  subst e
  intro hf hh x y hx hy w1 w2
  exact zod T 10000 t hf hh w x y cs ds ok ok' _ _ hx hy w1 w2
 obtain ⟨b,h1,h2⟩:=key (.st u) htyof hf hht x y hx hy (.inl ⟨rfl,rfl⟩) (.inl ⟨rfl,rfl⟩)
 rw [h1]
 congr 1
 rw [Bool.eq_iff_iff,h2]
 simp
end

theorem z6p (f fb:Nat→Nat) (s:SV):(s.ren2 f fb).roots=s.roots.map f∧(s.ren2 f fb).boxes=s.boxes.map fb∧(s.ren2 f fb).isSt=s.isSt∧(s.ren2 f fb).count=s.count∧(s.ren2 f fb).isCh=s.isCh:=by
 induction s with
 | st s ih=>exact ⟨ih.1,ih.2.1,rfl,rfl,rfl⟩
 | pr a b iha ihb=>exact ⟨by simp [SV.ren2,SV.roots,iha.1,ihb.1],by simp [SV.ren2,SV.boxes,iha.2.1,ihb.2.1],rfl,rfl,rfl⟩
 | clo g s ih=>exact ⟨ih.1,ih.2.1,rfl,rfl,rfl⟩
 | tup s ih=>exact ⟨ih.1,ih.2.1,rfl,rfl,rfl⟩
 | cns a b iha ihb=>exact ⟨by simp [SV.ren2,SV.roots,iha.1,ihb.1],by simp [SV.ren2,SV.boxes,iha.2.1,ihb.2.1],rfl,by simp [SV.ren2,SV.count,ihb.2.2.2.1],rfl⟩
 | val t x=>cases t <;> exact ⟨rfl,rfl,rfl,rfl,rfl⟩
 | _=>exact ⟨rfl,rfl,rfl,rfl,rfl⟩

section
variable {P : Program} {E E' : Env} {w0 w1 : World} {ok ok1 O : Nat → Prop} {σ σ' : St} {tm tm' : Array Value} {w w' : World} {M M' : Map} {a : Act}

structure Renm2 (M M':Map) (f fb:Nat→Nat) (I B:Nat→Prop):Prop where
 loc:∀ i,I i→M'.loc (f i)=M.loc i
 blk:∀ i,B i→M'.blk (fb i)=M.blk i∧M'.bn (fb i)=M.bn i∧M'.bw (fb i)=M.bw i
theorem z3w {f fb:Nat→Nat} {I B:Nat→Prop} (H:Renm2 M M' f fb I B):∀ {s:SV} {cs:List Value},(∀ i∈s.roots,I i)→(∀ i∈s.boxes,B i)→za w0 ok M s cs→za w0 ok M' (s.ren2 f fb) cs
 | .val t x,cs,_,_,hs=>by cases t <;> exact hs
 | .ref i p,cs,h,_,hs=>by
  have e:=H.loc i (h i (by simp [SV.roots]))
  simp only [SV.ren2,za] at hs ⊢
  rw [e]; exact hs
 | .vw i lo n,cs,h,_,hs=>by
  have e:=H.loc i (h i (by simp [SV.roots]))
  simp only [SV.ren2,za] at hs ⊢
  rw [e]; exact hs
 | .ls i,cs,_,h,hs=>by
  obtain ⟨e1,e2,_⟩:=H.blk i (h i (by simp [SV.boxes]))
  simp only [SV.ren2,za] at hs ⊢
  rw [e1,e2]; exact hs
 | .st s,cs,h,hb,hs=>z3w H (s:=s) h hb hs
 | .pr a b,cs,h,hb,hs=>by
  obtain ⟨c1,c2,rfl,h1,h2⟩:=hs
  exact ⟨c1,c2,rfl,z3w H (fun i hi=>h i (by simp [SV.roots,hi])) (fun i hi=>hb i (by simp [SV.boxes,hi])) h1,z3w H (fun i hi=>h i (by simp [SV.roots,hi])) (fun i hi=>hb i (by simp [SV.boxes,hi])) h2⟩
 | .bp i p o,cs,_,h,hs=>by
  obtain ⟨e1,_,_⟩:=H.blk i (h i (by simp [SV.boxes]))
  simp only [SV.ren2,za] at hs ⊢
  rw [e1]; exact hs
 | .ep i p n f' o,cs,h,_,hs=>by
  have e:=H.loc i (h i (by simp [SV.roots]))
  simp only [SV.ren2,za] at hs ⊢
  rw [e]; exact hs
 | .lp i n,cs,_,h,hs=>by
  obtain ⟨e1,e2,e3⟩:=H.blk i (h i (by simp [SV.boxes]))
  simp only [SV.ren2,za] at hs ⊢
  rw [e1,e2,e3]; exact hs
 | .clo g c,cs,h,hb,hs=>by
  obtain ⟨caps,rfl,h1⟩:=hs
  exact ⟨caps,rfl,z3w H (s:=c) h hb h1⟩
 | .no,cs,_,_,hs=>hs
 | .er _,cs,_,_,hs=>hs
 | .un,cs,_,_,hs=>hs
 | .tup _,_,_,_,h=>h.elim
 | .cns _ _,_,_,_,h=>h.elim
 | .nl,_,_,_,h=>h.elim
theorem zoe {f fb:Nat→Nat} {I B:Nat→Prop} (H:Renm2 M M' f fb I B) {s:SV}:∀ {cs:List Value},(∀ i∈s.roots,I i)→(∀ i∈s.boxes,B i)→z1e w0 ok M s cs→z1e w0 ok M' (s.ren2 f fb) cs:=by
 induction s with
 | cns a b iha ihb =>
  intro cs h hb hs
  obtain ⟨c1,c2,rfl,h1,h2⟩:=hs
  exact ⟨c1,c2,rfl,z3w H (fun i hi=>h i (by simp [SV.roots,hi])) (fun i hi=>hb i (by simp [SV.boxes,hi])) h1,ihb (fun i hi=>h i (by simp [SV.roots,hi])) (fun i hi=>hb i (by simp [SV.boxes,hi])) h2⟩
 | nl=>intro cs _ _ hs; exact hs
 | val t x=>intro cs h hb hs; exact zu (z3w H (s:=.val t x) h hb hs)
 | ref i p=>intro cs h hb hs; exact zu (z3w H (s:=.ref i p) h hb hs)
 | vw i lo n=>intro cs h hb hs; exact zu (z3w H (s:=.vw i lo n) h hb hs)
 | ls i=>intro cs h hb hs; exact zu (z3w H (s:=.ls i) h hb hs)
 | st s _=>intro cs h hb hs; exact zu (z3w H (s:=.st s) h hb hs)
 | pr a b _ _=>intro cs h hb hs; exact zu (z3w H (s:=.pr a b) h hb hs)
 | bp i p o=>intro cs h hb hs; exact zu (z3w H (s:=.bp i p o) h hb hs)
 | ep i p n f o=>intro cs h hb hs; exact zu (z3w H (s:=.ep i p n f o) h hb hs)
 | lp i n=>intro cs h hb hs; exact zu (z3w H (s:=.lp i n) h hb hs)
 | clo g s _=>intro cs h hb hs; exact zu (z3w H (s:=.clo g s) h hb hs)
 | no=>intro cs _ _ hs; exact hs
 | er b=>intro cs _ _ hs; exact hs
 | un=>intro cs _ _ hs; exact hs
 | tup s _=>intro cs _ _ hs; exact hs.elim
theorem zyn {f fb:Nat→Nat} {I B:Nat→Prop} (H:Renm2 M M' f fb I B) {s:SV}:∀ {vs:List Value},(∀ i∈s.roots,I i)→(∀ i∈s.boxes,B i)→z2d w0 ok M s vs→z2d w0 ok M' (s.ren2 f fb) vs:=by
 induction s with
 | cns a b iha ihb =>
  intro vs h hb hs
  obtain ⟨v,vs',rfl,⟨cs,h1,h3⟩,h2⟩:=hs
  exact ⟨v,vs',rfl,⟨cs,z3w H (fun i hi=>h i (by simp [SV.roots,hi])) (fun i hi=>hb i (by simp [SV.boxes,hi])) h1,by rw [(z6p f fb a).2.2.1]; exact h3⟩,ihb (fun i hi=>h i (by simp [SV.roots,hi])) (fun i hi=>hb i (by simp [SV.boxes,hi])) h2⟩
 | nl=>intro vs _ _ hs; exact hs
 | _=>intro vs _ _ hs; exact hs.elim
theorem zof {f fb:Nat→Nat} {I B:Nat→Prop} (H:Renm2 M M' f fb I B) {s:SV} {v:Value} (h:∀ i∈s.roots,I i) (hb:∀ i∈s.boxes,B i) (hs:zi w0 ok M s v):zi w0 ok M' (s.ren2 f fb) v:=by
 rcases z34 hs with rfl | ⟨c,vs,rfl,rfl,h1⟩ | ⟨cs,h1,h2⟩
 ·trivial
 ·exact ⟨vs,rfl,zyn H h hb h1⟩
 ·exact z1m (z3w H h hb h1) (by unfold z2h; rw [(z6p f fb s).2.2.1]; exact h2)

def zg4 (x y:Loc):Prop:=∃ e t,∃ l l':L (.sl e t),x=⟨.sl e t,l⟩∧y=⟨.sl e t,l'⟩∧l'.1=l.1∧l'.2.1=l.2.1∧l'.2.2.length=l.2.2.length
structure Near (M M':Map) (gr dp gb db:Nat→Bool) (S:SV):Prop where
 loc:∀ i∈S.roots,gr i=false→(dp i=false→M'.loc i=M.loc i)∧zg4 (M.loc i) (M'.loc i)
 blk:∀ i∈S.boxes,gb i=false→M'.blk i=M.blk i∧(db i=false→M'.bn i=M.bn i∧M'.bw i=M.bw i)
 gd:∀ i,gb i=true→db i=true
theorem Near.mono {gr dp gb db:Nat→Bool} {s s':SV} (h:Near M M' gr dp gb db s) (h1:∀ i∈s'.roots,i∈s.roots) (h2:∀ i∈s'.boxes,i∈s.boxes):Near M M' gr dp gb db s' :=
 ⟨fun i hi=>h.loc i (h1 i hi),fun i hi=>h.blk i (h2 i hi),h.gd⟩
theorem zog {p:List Step} {e:TypeId} {t:Ty} {l:L (.sl e t)} {y:Loc} (h:zr (.sl e t) l p=some y) (hp:Nat.blt 0 (ixs p)=false):p=[]:=by
 match p with
 | []=>rfl
 | .ix n::p =>
  have:Nat.blt 0 (ixs (.ix n::p))=true:=Nat.ble_eq_true_of_le (by simp [ixs])
  rw [this] at hp; cases hp
 | .f _::_=>cases h
 | .u::_=>cases h
theorem z8m {s:SV} {cs:List Value} (hw:Wk s .un) (h:za w0 ok M s cs):za w0 ok M' .un cs :=
 have q:za w0 ok M .un cs:=hw.V h
 q
theorem z3x {gr dp gb db:Nat→Bool}:∀ {s:SV} {cs:List Value},Near M M' gr dp gb db s→za w0 ok M s cs→za w0 ok M' (s.cutR gr dp gb db) cs
 | .val t x,cs,_,hs=>by cases t <;> exact hs
 | .ref i p,cs,h,hs=>by
  obtain ⟨h1,_,_⟩:=h
  have h1:=h1 i (by simp [SV.roots])
  simp only [SV.cutR]
  cases hg:gr i with
  | true=>simp only [Bool.true_or,cond_true]; exact z8m (Wk.ref i p) hs
  | false =>
   obtain ⟨e1,e,t,l,l',e2,e3,e4,e5,e6⟩:=h1 hg
   cases hd:dp i with
   | false=>simp only [Bool.false_and,Bool.or_false,cond_false]; simp only [za] at hs ⊢; rw [e1 hd]; exact hs
   | true =>
    cases hp:Nat.blt 0 (ixs p) with
    | true=>simp only [Bool.false_or,Bool.and_self,cond_true]; exact z8m (Wk.ref i p) hs
    | false =>
     simp only [Bool.and_false,Bool.or_false,cond_false]
     obtain ⟨e',t',q,h2,rfl⟩:=hs
     rw [e2] at h2
     have:=zog h2 hp
     subst this
     cases h2
     exact ⟨e,t,l',by rw [e3]; rfl,by simp [z8,e4,e5,e6]⟩
 | .vw i lo n,cs,h,hs=>by
  obtain ⟨h1,_,_⟩:=h
  have h1:=h1 i (by simp [SV.roots])
  simp only [SV.cutR]
  cases hg:gr i with
  | true=>simp only [cond_true]; exact z8m (Wk.vw i lo n) hs
  | false =>
   simp only [cond_false]
   obtain ⟨e1,e,t,l,l',e2,e3,e4,e5,e6⟩:=h1 hg
   obtain ⟨e',t',q,h2,h3,A,c,rfl,h4,h5⟩:=hs
   rw [e2] at h2
   cases h2
   exact ⟨e,t,l',e3,by rw [e6]; exact h3,A,c,rfl,by rw [e5]; exact h4,by rw [e4]; exact h5⟩
 | .ls i,cs,h,hs=>by
  obtain ⟨_,h1,gd⟩:=h
  have h1:=h1 i (by simp [SV.boxes])
  simp only [SV.cutR]
  cases hd:db i with
  | true=>simp only [cond_true]; exact z8m (Wk.ls i) hs
  | false =>
   simp only [cond_false]
   cases hg:gb i with
   | true=>rw [gd i hg] at hd; cases hd
   | false =>
    obtain ⟨e1,e2⟩:=h1 hg
    simp only [za] at hs ⊢
    rw [e1,(e2 hd).1]; exact hs
 | .st s,cs,h,hs=>z3x (s:=s) (h.mono (fun _ hi=>hi) (fun _ hi=>hi)) hs
 | .pr a b,cs,h,hs=>by
  obtain ⟨c1,c2,rfl,h1,h2⟩:=hs
  exact ⟨c1,c2,rfl,z3x (h.mono (fun i hi=>by simp [SV.roots,hi]) (fun i hi=>by simp [SV.boxes,hi])) h1,z3x (h.mono (fun i hi=>by simp [SV.roots,hi]) (fun i hi=>by simp [SV.boxes,hi])) h2⟩
 | .bp i p o,cs,h,hs=>by
  obtain ⟨_,h1,gd⟩:=h
  have h1:=h1 i (by simp [SV.boxes])
  simp only [SV.cutR]
  cases hg:gb i with
  | true=>simp only [cond_true]; exact z8m (Wk.bp i p o) hs
  | false=>simp only [cond_false]; simp only [za] at hs ⊢; rw [(h1 hg).1]; exact hs
 | .ep i p n f o,cs,h,hs=>by
  obtain ⟨h1,_,_⟩:=h
  have h1:=h1 i (by simp [SV.roots])
  simp only [SV.cutR]
  cases hg:gr i with
  | true=>simp only [Bool.true_or,cond_true]; exact z8m (Wk.ep i p n f o) hs
  | false =>
   obtain ⟨e1,e,t,l,l',e2,e3,e4,e5,e6⟩:=h1 hg
   cases hd:dp i with
   | false=>simp only [Bool.false_and,Bool.or_false,cond_false]; simp only [za] at hs ⊢; rw [e1 hd]; exact hs
   | true =>
    cases hp:Nat.blt 0 (ixs p) with
    | true=>simp only [Bool.false_or,Bool.and_self,cond_true]; exact z8m (Wk.ep i p n f o) hs
    | false =>
     simp only [Bool.and_false,Bool.or_false,cond_false]
     obtain ⟨e',t',q,g,h2,h3,h4,rfl⟩:=hs
     rw [e2] at h2
     have:=zog h2 hp
     subst this
     cases h2
     exact ⟨e,t,l',g,by rw [e3]; rfl,by rw [e4]; exact h3,by rw [e6]; exact h4,rfl⟩
 | .lp i n,cs,h,hs=>by
  obtain ⟨_,h1,gd⟩:=h
  have h1:=h1 i (by simp [SV.boxes])
  simp only [SV.cutR]
  cases hd:db i with
  | true=>simp only [cond_true]; exact z8m (Wk.lp i n) hs
  | false =>
   simp only [cond_false]
   cases hg:gb i with
   | true=>rw [gd i hg] at hd; cases hd
   | false =>
    obtain ⟨e1,e2⟩:=h1 hg
    simp only [za] at hs ⊢
    rw [e1,(e2 hd).1,(e2 hd).2]; exact hs
 | .clo g c,cs,h,hs=>by
  obtain ⟨caps,rfl,h1⟩:=hs
  exact ⟨caps,rfl,z3x (s:=c) (h.mono (fun _ hi=>hi) (fun _ hi=>hi)) h1⟩
 | .no,cs,_,hs=>hs
 | .er _,cs,_,hs=>hs
 | .un,cs,_,hs=>hs
 | .tup _,_,_,h=>h.elim
 | .cns _ _,_,_,h=>h.elim
 | .nl,_,_,h=>h.elim
end

theorem z54 {l:List Nat} {i:Nat}:has l i=true↔i∈l:=by
 unfold has
 rw [List.any_eq_true]
 constructor
 ·rintro ⟨j,hj,h⟩; exact Nat.eq_of_beq_eq_true h▸hj
 ·intro h; exact ⟨i,h,by simp⟩
theorem zyo {l:List Nat} {i:Nat}:has l i=false↔i∉l:=by
 rw [← z54]; simp
theorem zdj:∀ {l:List Nat},z4h l=true→l.Nodup
 | [],_=>List.nodup_nil
 | i::l,h=>by
  simp only [z4h,Bool.and_eq_true] at h
  refine List.nodup_cons.2 ⟨fun hm=>?_,zdj h.2⟩
  have:l.any (Nat.beq i)=true:=List.any_eq_true.2 ⟨i,hm,by simp⟩
  rw [this] at h
  simp at h
theorem z6q:∀ {l:List Nat} {k i:Nat},l[k]?=some i→z1q l k=i
 | [],k,i,h=>by simp at h
 | j::l,0,i,h=>by simpa [z1q] using h
 | j::l,k+1,i,h=>by simp only [List.getElem?_cons_succ] at h; exact z6q (l:=l) (k:=k) h
theorem zoh {l:List Nat} {k:Nat} (h:k<l.length):∃ i,l[k]?=some i∧z1q l k=i∧i∈l:=by
 have:=List.getElem?_eq_getElem h
 exact ⟨_,this,z6q this,List.getElem_mem h⟩
theorem zg5 {l:List Nat} (h:l.Nodup) {k m i:Nat} (h1:l[k]?=some i) (h2:l[m]?=some i):k=m:=by
 obtain ⟨k1,e1⟩:=List.getElem?_eq_some_iff.1 h1
 obtain ⟨k2,e2⟩:=List.getElem?_eq_some_iff.1 h2
 exact zjg h k1 k2 (e1.trans e2.symm)
theorem zjr {ids:List Nat} {i:Nat} (h:i∈ids):∃ k,z1y ids i=PIN+k∧ids[k]?=some i:=by
 obtain ⟨k,h1,h2⟩:=z9g ids i 0 h
 exact ⟨k,by unfold z1y; rw [h1,Nat.zero_add],h2⟩
theorem zg6 {ids:List Nat} {i:Nat} (h:i∈ids):z1q ids (z1y ids i-PIN)=i:=by
 obtain ⟨k,h1,h2⟩:=zjr h
 rw [h1,Nat.add_sub_cancel_left]
 exact z6q h2
theorem z55 {α:Type}:∀ {l:List (Nat×α)} {j:Nat} {r:α},(l.map (·.1)).Nodup→(j,r)∈l→lk l j=some r
 | [],j,r,_,h=>by cases h
 | (i,x)::l,j,r,hn,h=>by
  rw [zn]
  simp only [List.map_cons,List.nodup_cons] at hn
  rcases List.mem_cons.1 h with e | h
  ·cases e; rw [if_pos rfl]
  ·rw [if_neg (fun e=>hn.1 (List.mem_map.2 ⟨(j,r),h,e.symm⟩))]
   exact z55 hn.2 h
theorem z5g {α:Type}:∀ {l:List (Nat×α)} {j:Nat},j∈l.map (·.1)→∃ r,lk l j=some r
 | [],j,h=>by cases h
 | (i,x)::l,j,h=>by
  rw [zn]
  by_cases e:i=j
  ·exact ⟨x,by rw [if_pos e]⟩
  ·rw [if_neg e]
   simp only [List.map_cons,List.mem_cons] at h
   exact z5g (h.resolve_left (fun q=>e q.symm))
theorem zbe {α:Type} (ids:List Nat):∀ (l:List (Nat×α)) (i:Nat),lk (z4j ids l) i=if i∈ids then none else lk l i
 | [],i=>by simp [z4j,lk]
 | (j,x)::l,i=>by
  simp only [z4j]
  cases h:has ids j with
  | true =>
   have:=z54.1 h
   simp only [cond_true]
   rw [zbe ids l i,zn]
   by_cases e:j=i
   ·subst e; rw [if_pos this,if_pos this]
   ·rw [if_neg e]
  | false =>
   have:=zyo.1 h
   simp only [cond_false]
   rw [zn,zn,zbe ids l i]
   by_cases e:j=i
   ·subst e; rw [if_pos rfl,if_neg this,if_pos rfl]
   ·rw [if_neg e,if_neg e]
theorem zg7 {f:Nat→Nat}:∀ {l:List (Nat×Row)} {i:Nat} {r:Row},(i,r)∈z7w f l↔∃ j,f j=i∧(j,r)∈l
 | [],i,r=>by simp [z7w]
 | (k,x)::l,i,r=>by
  simp only [z7w,List.mem_cons,zg7 (l:=l),Prod.mk.injEq]
  constructor
  ·rintro (⟨rfl,rfl⟩ | ⟨j,h1,h2⟩)
   ·exact ⟨k,rfl,.inl ⟨rfl,rfl⟩⟩
   ·exact ⟨j,h1,.inr h2⟩
  ·rintro ⟨j,h1,⟨rfl,rfl⟩ | h2⟩
   ·exact .inl ⟨h1.symm,rfl⟩
   ·exact .inr ⟨j,h1,h2⟩
theorem zg8 {f fb:Nat→Nat}:∀ {l:List (Nat×Bx)} {i:Nat} {b:Bx},(i,b)∈z7x f fb l↔∃ j b0,fb j=i∧(j,b0)∈l∧b=⟨b0.ty,b0.c.ren2 f fb⟩
 | [],i,r=>by simp [z7x]
 | (k,x)::l,i,r=>by
  simp only [z7x,List.mem_cons,zg8 (l:=l),Prod.mk.injEq]
  constructor
  ·rintro (⟨rfl,rfl⟩ | ⟨j,b0,h1,h2,h3⟩)
   ·exact ⟨k,x,rfl,.inl ⟨rfl,rfl⟩,rfl⟩
   ·exact ⟨j,b0,h1,.inr h2,h3⟩
  ·rintro ⟨j,b0,h1,⟨rfl,rfl⟩ | h2,h3⟩
   ·exact .inl ⟨h1.symm,h3⟩
   ·exact .inr ⟨j,b0,h1,h2,h3⟩
theorem zoi (f:Nat→Nat):∀ l:List (Nat×Row),(z7w f l).map (·.1)=(l.map (·.1)).map f
 | []=>rfl
 | (k,x)::l=>by simp [z7w,zoi f l]
theorem zoj (f fb:Nat→Nat):∀ l:List (Nat×Bx),(z7x f fb l).map (·.1)=(l.map (·.1)).map fb
 | []=>rfl
 | (k,x)::l=>by simp [z7x,zoj f fb l]
theorem zg9:∀ {l:List SV} {n j:Nat} {s:SV},lk (z6z l n) j=some s→∃ k,j=n+k∧l[k]?=some s
 | [],n,j,s,h=>by cases h
 | x::l,n,j,s,h=>by
  simp only [z6z,zn] at h
  split at h
  ·rename_i e; cases h; exact ⟨0,by omega,rfl⟩
  ·obtain ⟨k,h1,h2⟩:=zg9 h
   exact ⟨k+1,by omega,by simpa using h2⟩
theorem zok {rows:List (Nat×Row)}:∀ {ids:List Nat} {n j:Nat} {r:Row},lk (z5l rows ids n) j=some r→∃ k i,j=n+k∧ids[k]?=some i∧lk rows i=some r
 | [],n,j,r,h=>by cases h
 | i::l,n,j,r,h=>by
  have ih:lk (z5l rows l (n+1)) j=some r→∃ k i',j=n+k∧(i::l)[k]?=some i'∧lk rows i'=some r:=fun h=>by
   obtain ⟨k,i',h1,h2,h3⟩:=zok h
   exact ⟨k+1,i',by omega,by simpa using h2,h3⟩
  simp only [z5l] at h
  split at h
  ·rename_i x hx
   rw [zn] at h
   split at h
   ·rename_i e; cases h; exact ⟨0,i,by omega,rfl,hx⟩
   ·exact ih h
  ·exact ih h
theorem zol {rows:List (Nat×Row)}:∀ {ids:List Nat} {n k i:Nat} {r:Row},ids[k]?=some i→lk rows i=some r→lk (z5l rows ids n) (n+k)=some r
 | [],n,k,i,r,h,_=>by simp at h
 | j::l,n,0,i,r,h,hr=>by
  simp at h; subst h
  simp only [z5l,hr,Nat.add_zero]
  exact z5b _ _ _
 | j::l,n,k+1,i,r,h,hr=>by
  simp only [List.getElem?_cons_succ] at h
  have:=zol (n:=n+1) h hr
  simp only [z5l]
  split
  ·rw [zn,if_neg (by omega),show n+(k+1)=n+1+k by omega]; exact this
  ·rw [show n+(k+1)=n+1+k by omega]; exact this
theorem zom {bx:List (Nat×Bx)} {f fb:Nat→Nat}:∀ {ids:List Nat} {n j:Nat} {b:Bx},lk (z5m bx f fb ids n) j=some b→∃ k i b0,j=n+k∧ids[k]?=some i∧lk bx i=some b0∧b=⟨b0.ty,b0.c.ren2 f fb⟩
 | [],n,j,r,h=>by cases h
 | i::l,n,j,r,h=>by
  have ih:lk (z5m bx f fb l (n+1)) j=some r→∃ k i' b0,j=n+k∧(i::l)[k]?=some i'∧lk bx i'=some b0∧r=⟨b0.ty,b0.c.ren2 f fb⟩:=fun h=>by
   obtain ⟨k,i',b0,h1,h2,h3⟩:=zom h
   exact ⟨k+1,i',b0,by omega,by simpa using h2,h3⟩
  simp only [z5m] at h
  split at h
  ·rename_i x hx
   rw [zn] at h
   split at h
   ·rename_i e; cases h; exact ⟨0,i,x,by omega,rfl,hx,rfl⟩
   ·exact ih h
  ·exact ih h
theorem zon {bx:List (Nat×Bx)} {f fb:Nat→Nat}:∀ {ids:List Nat} {n k i:Nat} {b:Bx},ids[k]?=some i→lk bx i=some b→lk (z5m bx f fb ids n) (n+k)=some ⟨b.ty,b.c.ren2 f fb⟩
 | [],n,k,i,r,h,_=>by simp at h
 | j::l,n,0,i,r,h,hr=>by
  simp at h; subst h
  simp only [z5m,hr,Nat.add_zero]
  exact z5b _ _ _
 | j::l,n,k+1,i,r,h,hr=>by
  simp only [List.getElem?_cons_succ] at h
  have:=zon (f:=f) (fb:=fb) (n:=n+1) h hr
  simp only [z5m]
  split
  ·rw [zn,if_neg (by omega),show n+(k+1)=n+1+k by omega]; exact this
  ·rw [show n+(k+1)=n+1+k by omega]; exact this
theorem zga (gr dp gb db:Nat→Bool) (gd:∀ i,gb i=true→db i=true) (s:SV):(∀ i∈(s.cutR gr dp gb db).roots,i∈s.roots∧gr i=false)∧(∀ i∈(s.cutR gr dp gb db).boxes,i∈s.boxes∧gb i=false)∧(s.cutR gr dp gb db).isSt=s.isSt∧(s.cutR gr dp gb db).count=s.count∧(s.cutR gr dp gb db).isCh=s.isCh:=by
 induction s with
 | st s ih=>exact ⟨ih.1,ih.2.1,rfl,rfl,rfl⟩
 | pr a b iha ihb =>
  refine ⟨fun i hi=>?_,fun i hi=>?_,rfl,rfl,rfl⟩
  ·simp only [SV.cutR,SV.roots,List.mem_append] at hi ⊢
   rcases hi with h | h
   ·exact ⟨.inl (iha.1 i h).1,(iha.1 i h).2⟩
   ·exact ⟨.inr (ihb.1 i h).1,(ihb.1 i h).2⟩
  ·simp only [SV.cutR,SV.boxes,List.mem_append] at hi ⊢
   rcases hi with h | h
   ·exact ⟨.inl (iha.2.1 i h).1,(iha.2.1 i h).2⟩
   ·exact ⟨.inr (ihb.2.1 i h).1,(ihb.2.1 i h).2⟩
 | clo g s ih=>exact ⟨ih.1,ih.2.1,rfl,rfl,rfl⟩
 | tup s ih=>exact ⟨ih.1,ih.2.1,rfl,rfl,rfl⟩
 | cns a b iha ihb =>
  refine ⟨fun i hi=>?_,fun i hi=>?_,rfl,by simp [SV.cutR,SV.count,ihb.2.2.2.1],rfl⟩
  ·simp only [SV.cutR,SV.roots,List.mem_append] at hi ⊢
   rcases hi with h | h
   ·exact ⟨.inl (iha.1 i h).1,(iha.1 i h).2⟩
   ·exact ⟨.inr (ihb.1 i h).1,(ihb.1 i h).2⟩
  ·simp only [SV.cutR,SV.boxes,List.mem_append] at hi ⊢
   rcases hi with h | h
   ·exact ⟨.inl (iha.2.1 i h).1,(iha.2.1 i h).2⟩
   ·exact ⟨.inr (ihb.2.1 i h).1,(ihb.2.1 i h).2⟩
 | ref j p =>
  simp only [SV.cutR]
  cases hg:gr j with
  | true=>exact ⟨by simp [SV.roots],by simp [SV.boxes],rfl,rfl,rfl⟩
  | false =>
   cases hq:(dp j&&Nat.blt 0 (ixs p)) with
   | true=>exact ⟨by simp [SV.roots],by simp [SV.boxes],rfl,rfl,rfl⟩
   | false=>exact ⟨fun i hi=>by simp [SV.roots] at hi ⊢; subst hi; exact ⟨rfl,hg⟩,by simp [SV.boxes],rfl,rfl,rfl⟩
 | vw j p n =>
  simp only [SV.cutR]
  cases hg:gr j with
  | true=>exact ⟨by simp [SV.roots],by simp [SV.boxes],rfl,rfl,rfl⟩
  | false=>exact ⟨fun i hi=>by simp [SV.roots] at hi ⊢; subst hi; exact ⟨rfl,hg⟩,by simp [SV.boxes],rfl,rfl,rfl⟩
 | ep j p n f o =>
  simp only [SV.cutR]
  cases hg:gr j with
  | true=>exact ⟨by simp [SV.roots],by simp [SV.boxes],rfl,rfl,rfl⟩
  | false =>
   cases hq:(dp j&&Nat.blt 0 (ixs p)) with
   | true=>exact ⟨by simp [SV.roots],by simp [SV.boxes],rfl,rfl,rfl⟩
   | false=>exact ⟨fun i hi=>by simp [SV.roots] at hi ⊢; subst hi; exact ⟨rfl,hg⟩,by simp [SV.boxes],rfl,rfl,rfl⟩
 | bp j p o =>
  simp only [SV.cutR]
  cases hg:gb j with
  | true=>exact ⟨by simp [SV.roots],by simp [SV.boxes],rfl,rfl,rfl⟩
  | false=>exact ⟨by simp [SV.roots],fun i hi=>by simp [SV.boxes] at hi ⊢; subst hi; exact ⟨rfl,hg⟩,rfl,rfl,rfl⟩
 | ls j =>
  simp only [SV.cutR]
  cases hg:db j with
  | true=>exact ⟨by simp [SV.roots],by simp [SV.boxes],rfl,rfl,rfl⟩
  | false=>exact ⟨by simp [SV.roots],fun i hi=>by
    simp [SV.boxes] at hi ⊢; subst hi
    exact ⟨rfl,by cases hq:gb i with | false=>rfl | true=>rw [gd i hq] at hg; cases hg⟩,rfl,rfl,rfl⟩
 | lp j n =>
  simp only [SV.cutR]
  cases hg:db j with
  | true=>exact ⟨by simp [SV.roots],by simp [SV.boxes],rfl,rfl,rfl⟩
  | false=>exact ⟨by simp [SV.roots],fun i hi=>by
    simp [SV.boxes] at hi ⊢; subst hi
    exact ⟨rfl,by cases hq:gb i with | false=>rfl | true=>rw [gd i hq] at hg; cases hg⟩,rfl,rfl,rfl⟩
 | val t x=>cases t <;> exact ⟨by simp [SV.cutR,SV.roots],by simp [SV.cutR,SV.boxes],rfl,rfl,rfl⟩
 | _=>exact ⟨by simp [SV.cutR,SV.roots],by simp [SV.cutR,SV.boxes],rfl,rfl,rfl⟩

section
variable {P : Program} {E E' : Env} {w0 w1 : World} {ok ok1 O : Nat → Prop} {σ σ' τ : St} {tm tm' : Array Value} {w w' : World} {M M' : Map} {a : Act}

theorem zyp {gr dp gb db:Nat→Bool} {s:SV}:∀ {cs:List Value},Near M M' gr dp gb db s→z1e w0 ok M s cs→z1e w0 ok M' (s.cutR gr dp gb db) cs:=by
 induction s with
 | cns a b iha ihb =>
  intro cs h hs
  obtain ⟨c1,c2,rfl,h1,h2⟩:=hs
  exact ⟨c1,c2,rfl,z3x (h.mono (fun i hi=>by simp [SV.roots,hi]) (fun i hi=>by simp [SV.boxes,hi])) h1,ihb (h.mono (fun i hi=>by simp [SV.roots,hi]) (fun i hi=>by simp [SV.boxes,hi])) h2⟩
 | nl=>intro cs _ hs; exact hs
 | val t x=>intro cs h hs; exact zu (z3x (s:=.val t x) h hs)
 | ref i p=>intro cs h hs; exact zu (z3x (s:=.ref i p) h hs)
 | vw i lo n=>intro cs h hs; exact zu (z3x (s:=.vw i lo n) h hs)
 | ls i=>intro cs h hs; exact zu (z3x (s:=.ls i) h hs)
 | st s _=>intro cs h hs; exact zu (z3x (s:=.st s) h hs)
 | pr a b _ _=>intro cs h hs; exact zu (z3x (s:=.pr a b) h hs)
 | bp i p o=>intro cs h hs; exact zu (z3x (s:=.bp i p o) h hs)
 | ep i p n f o=>intro cs h hs; exact zu (z3x (s:=.ep i p n f o) h hs)
 | lp i n=>intro cs h hs; exact zu (z3x (s:=.lp i n) h hs)
 | clo g s _=>intro cs h hs; exact zu (z3x (s:=.clo g s) h hs)
 | no=>intro cs _ hs; exact hs
 | er b=>intro cs _ hs; exact hs
 | un=>intro cs _ hs; exact hs
 | tup s _=>intro cs _ hs; exact hs.elim
theorem zyq {gr dp gb db:Nat→Bool} (gd:∀ i,gb i=true→db i=true) {s:SV}:∀ {vs:List Value},Near M M' gr dp gb db s→z2d w0 ok M s vs→z2d w0 ok M' (s.cutR gr dp gb db) vs:=by
 induction s with
 | cns a b iha ihb =>
  intro vs h hs
  obtain ⟨v,vs',rfl,⟨cs,h1,h3⟩,h2⟩:=hs
  exact ⟨v,vs',rfl,⟨cs,z3x (h.mono (fun i hi=>by simp [SV.roots,hi]) (fun i hi=>by simp [SV.boxes,hi])) h1,by rw [(zga gr dp gb db gd a).2.2.1]; exact h3⟩,ihb (h.mono (fun i hi=>by simp [SV.roots,hi]) (fun i hi=>by simp [SV.boxes,hi])) h2⟩
 | nl=>intro vs _ hs; exact hs
 | _=>intro vs _ hs; exact hs.elim
theorem zyr {gr dp gb db:Nat→Bool} {s:SV} {v:Value} (h:Near M M' gr dp gb db s) (hs:zi w0 ok M s v):zi w0 ok M' (s.cutR gr dp gb db) v:=by
 rcases z34 hs with rfl | ⟨c,vs,rfl,rfl,h1⟩ | ⟨cs,h1,h2⟩
 ·trivial
 ·exact ⟨vs,rfl,zyq h.gd (s:=c) (h.mono (fun i hi=>hi) (fun i hi=>hi)) h1⟩
 ·exact z1m (z3x h h1) (by unfold z2h; rw [(zga gr dp gb db h.gd s).2.2.1]; exact h2)

def Own (M:Map) (ids bids:List Nat) (k:Nat):Prop:=(∃ i∈ids,k∈z6 (M.loc i).1 (M.loc i).2)∨∃ b∈bids,k=M.blk b
def zbf (M:Map) (ids bids:List Nat):Map:=⟨fun j=>M.loc (z1q ids (j-PIN)),fun j=>M.blk (z1q bids (j-PIN)),fun j=>M.bn (z1q bids (j-PIN)),fun j=>M.bw (z1q bids (j-PIN))⟩
def hdL (x:Loc):Value:=(z8 x.1 x.2).headD undef
def zgb (E:Env) (M:Map) (ids bids:List Nat):Env:={ E with pins:=fun j=>hdL (M.loc (z1q ids (j-PIN))),pinB:=fun j=>M.blk (z1q bids (j-PIN)) }

structure InOK (σ:St) (l:List SV) (ids bids:List Nat):Prop where
 nd:ids.Nodup
 ndB:bids.Nodup
 args:∀ s∈l,(∀ i∈s.roots,i∈ids)∧∀ i∈s.boxes,i∈bids
 bx:∀ b∈bids,∃ x,lk σ.bx b=some x∧(∀ i∈x.c.boxes,i∈bids)∧∀ i∈x.c.roots,i∈ids
 rows:∀ i∈ids,∃ r,lk σ.rows i=some r
theorem zys {l:List SV} {ids bids:List Nat} (h:σ.okIn l ids bids=true):InOK σ l ids bids:=by
 simp only [St.okIn,Bool.and_eq_true,List.all_eq_true] at h
 obtain ⟨h1,h2,h3,h4,h5⟩:=h
 refine ⟨zdj h1,zdj h2,fun s hs=>⟨fun i hi=>z54.1 ((h3 s hs).1 i hi),fun i hi=>z54.1 ((h3 s hs).2 i hi)⟩,fun b hb=>?_,fun i hi=>?_⟩
 ·obtain ⟨k1,k2,k3⟩:=h4 b hb
  unfold zi2 at k2
  unfold zeg at k3
  cases hq:lk σ.bx b with
  | none=>rw [hq] at k1; cases k1
  | some x=>rw [hq] at k2 k3; exact ⟨x,rfl,fun i hi=>z54.1 (k2 i hi),fun i hi=>z54.1 (k3 i hi)⟩
 ·have:=h5 i hi
  cases hq:lk σ.rows i with
  | none=>rw [hq] at this; cases this
  | some r=>exact ⟨r,rfl⟩

theorem zoo {x:Loc} {e:TypeId} {t:Ty} {l:L (.sl e t)} (h:x=⟨.sl e t,l⟩):z8 x.1 x.2=[hdL x]:=by subst h; rfl

theorem zyt (R:Rep E w0 ok O σ tm w M) {l:List SV} {vs:List Value} {ids bids:List Nat} (H:InOK σ l ids bids) (hl:l.length=vs.length) (hs:∀ (k:Nat) s v,l[k]?=some s→vs[k]?=some v→zi w0 ok M s v) :
  Rep (zgb E M ids bids) w ok (Own M ids bids) ⟨z6z (l.map (SV.ren2 (z1y ids) (z1y bids))) 0,z5l σ.rows ids PIN,z5m σ.bx (z1y ids) (z1y bids) bids PIN⟩ vs.toArray w (zbf M ids bids):=by
 have HR:Renm2 M (zbf M ids bids) (z1y ids) (z1y bids) (·∈ids) (·∈bids) :=
  ⟨fun i hi=>by show M.loc (z1q ids (z1y ids i-PIN))=_; rw [zg6 hi],fun i hi=>by
   refine ⟨?_,?_,?_⟩
   ·show M.blk (z1q bids (z1y bids i-PIN))=_; rw [zg6 hi]
   ·show M.bn (z1q bids (z1y bids i-PIN))=_; rw [zg6 hi]
   ·show M.bw (z1q bids (z1y bids i-PIN))=_; rw [zg6 hi]⟩
 have row:∀ j r,lk (z5l σ.rows ids PIN) j=some r→∃ k i,j=PIN+k∧ids[k]?=some i∧i∈ids∧lk σ.rows i=some r∧(zbf M ids bids).loc j=M.loc i:=fun j r h=>by
  obtain ⟨k,i,rfl,h2,h3⟩:=zok h
  exact ⟨k,i,rfl,h2,List.mem_of_getElem? h2,h3,by show M.loc (z1q ids (PIN+k-PIN))=_; rw [Nat.add_sub_cancel_left,z6q h2]⟩
 have box:∀ j b,lk (z5m σ.bx (z1y ids) (z1y bids) bids PIN) j=some b→∃ k i b0,j=PIN+k∧bids[k]?=some i∧i∈bids∧lk σ.bx i=some b0∧b=⟨b0.ty,b0.c.ren2 (z1y ids) (z1y bids)⟩∧(zbf M ids bids).blk j=M.blk i∧(zbf M ids bids).bn j=M.bn i∧(zbf M ids bids).bw j=M.bw i:=fun j b h=>by
  obtain ⟨k,i,b0,rfl,h2,h3,h4⟩:=zom h
  refine ⟨k,i,b0,rfl,h2,List.mem_of_getElem? h2,h3,h4,?_,?_,?_⟩
  ·show M.blk (z1q bids (PIN+k-PIN))=_; rw [Nat.add_sub_cancel_left,z6q h2]
  ·show M.bn (z1q bids (PIN+k-PIN))=_; rw [Nat.add_sub_cancel_left,z6q h2]
  ·show M.bw (z1q bids (PIN+k-PIN))=_; rw [Nat.add_sub_cancel_left,z6q h2]
 have live:∀ s:SV,(∀ i∈s.roots,i∈ids)→(∀ i∈s.boxes,i∈bids)→Live ⟨z6z (l.map (SV.ren2 (z1y ids) (z1y bids))) 0,z5l σ.rows ids PIN,z5m σ.bx (z1y ids) (z1y bids) bids PIN⟩ (s.ren2 (z1y ids) (z1y bids)):=fun s h1 h2=>by
  refine ⟨fun j hj=>?_,fun j hj=>?_⟩
  ·rw [(z6p _ _ s).1] at hj
   obtain ⟨i,hi,rfl⟩:=List.mem_map.1 hj
   obtain ⟨k,e1,e2⟩:=zjr (h1 i hi)
   obtain ⟨r,hr⟩:=H.rows i (h1 i hi)
   rw [e1]
   exact ⟨r,zol e2 hr⟩
  ·rw [(z6p _ _ s).2.1] at hj
   obtain ⟨i,hi,rfl⟩:=List.mem_map.1 hj
   obtain ⟨k,e1,e2⟩:=zjr (h2 i hi)
   obtain ⟨b,hb,_⟩:=H.bx i (h2 i hi)
   rw [e1]
   exact ⟨_,zon e2 hb⟩
 have base:∀ (t:Ty) (x:t.T) (cs:List Value),Rd w0 ok t x cs→Rd w ok t x cs:=fun t x cs h=>R.rd h
 have notOk:∀ k,Own M ids bids k→¬ ok k:=fun k h=>by
  rcases h with ⟨i,hi,hk⟩ | ⟨b,hb,rfl⟩
  ·obtain ⟨r,hr⟩:=H.rows i hi
   exact (R.ownR i ⟨r,hr⟩ k hk).1
  ·obtain ⟨x,hx,_⟩:=H.bx b hb
   exact (R.ownB b ⟨x,hx⟩).1
 constructor
 ·intro s v h
  obtain ⟨k,e,h2⟩:=zg9 h
  rw [Nat.zero_add] at e
  subst e
  rw [List.getElem?_map,Option.map_eq_some_iff] at h2
  obtain ⟨u,h2,rfl⟩:=h2
  have hlt:s<vs.length:=by rw [← hl]; exact (List.getElem?_eq_some_iff.1 h2).1
  have hm:=List.mem_of_getElem? h2
  refine ⟨vs[s],by simp [hlt],?_⟩
  exact zof HR (H.args u hm).1 (H.args u hm).2 (zda base (hs s u _ h2 (List.getElem?_eq_getElem hlt)))
 ·intro j r h
  obtain ⟨k,i,rfl,h2,h3,h4,h5⟩:=row j r h
  obtain ⟨q,e1,e2⟩:=R.rows i r h4
  exact ⟨q,h5.trans e1,e2.1,z5v (fun _ _ _ h=>R.rd h) e2.2.1,e2.2.2⟩
 ·intro j b h
  obtain ⟨k,i,b0,rfl,h2,h3,h4,rfl,h5,h6,h7⟩:=box j b h
  obtain ⟨cs,e1,e2,e3⟩:=R.boxes i b0 h4
  obtain ⟨b1,g1,g2,g3⟩:=H.bx i h3
  rw [h4] at g1
  cases g1
  refine ⟨cs,zoe HR g3 g2 (zaz base e1),by rw [h5]; exact e2,fun hc=>?_⟩
  rw [(z6p _ _ b0.c).2.2.2.2] at hc
  obtain ⟨f1,f2,f3⟩:=e3 hc
  rw [h6,h7]
  exact ⟨by rw [(z6p _ _ b0.c).2.2.2.1]; exact f1,f2,by rw [(z6p _ _ b0.c).2.2.2.1]; exact f3⟩
 ·rintro i j hij ⟨r,hr⟩ ⟨r',hr'⟩ k hk
  obtain ⟨m,i',rfl,h2,h3,h4,h5⟩:=row i r hr
  obtain ⟨m',j',rfl,g2,g3,g4,g5⟩:=row j r' hr'
  rw [h5] at hk
  rw [g5]
  refine R.rr i' j' (fun e=>?_) ⟨r,h4⟩ ⟨r',g4⟩ k hk
  subst e
  exact hij (by rw [zg5 H.nd h2 g2])
 ·rintro i j hij ⟨r,hr⟩ ⟨r',hr'⟩
  obtain ⟨m,i',b,rfl,h2,h3,h4,_,h5,_⟩:=box i r hr
  obtain ⟨m',j',b',rfl,g2,g3,g4,_,g5,_⟩:=box j r' hr'
  rw [h5,g5]
  refine R.bb i' j' (fun e=>?_) ⟨b,h4⟩ ⟨b',g4⟩
  subst e
  exact hij (by rw [zg5 H.ndB h2 g2])
 ·rintro i j ⟨r,hr⟩ ⟨r',hr'⟩
  obtain ⟨m,i',rfl,h2,h3,h4,h5⟩:=row i r hr
  obtain ⟨m',j',b',rfl,g2,g3,g4,_,g5,_⟩:=box j r' hr'
  rw [h5,g5]
  exact R.rb i' j' ⟨r,h4⟩ ⟨b',g4⟩
 ·rintro i ⟨r,hr⟩ k hk
  obtain ⟨m,i',rfl,h2,h3,h4,h5⟩:=row i r hr
  rw [h5] at hk
  exact ⟨(R.ownR i' ⟨r,h4⟩ k hk).1,.inl (.inl ⟨i',h3,hk⟩)⟩
 ·rintro i ⟨r,hr⟩
  obtain ⟨m,i',b,rfl,h2,h3,h4,_,h5,_⟩:=box i r hr
  rw [h5]
  exact ⟨(R.ownB i' ⟨b,h4⟩).1,.inl (.inr ⟨i',h3,rfl⟩)⟩
 ·exact fun k hk=>⟨R.ok_lt hk,fun h=>notOk k h hk⟩
 ·intro s v h
  obtain ⟨k,e,h2⟩:=zg9 h
  rw [List.getElem?_map,Option.map_eq_some_iff] at h2
  obtain ⟨u,h2,rfl⟩:=h2
  have hm:=List.mem_of_getElem? h2
  exact live u (H.args u hm).1 (H.args u hm).2
 ·intro j b h
  obtain ⟨k,i,b0,rfl,h2,h3,h4,rfl,_⟩:=box j b h
  obtain ⟨b1,g1,g2,g3⟩:=H.bx i h3
  rw [h4] at g1
  cases g1
  exact live b0.c g3 g2
 ·exact Kept.refl _ _
 ·rintro i hi ⟨r,hr⟩
  obtain ⟨m,i',rfl,h2,h3,h4,h5⟩:=row i r hr
  obtain ⟨q,e1,_⟩:=R.rows i' r h4
  rw [h5]
  show _=[hdL (M.loc (z1q ids (PIN+m-PIN)))]
  rw [Nat.add_sub_cancel_left,z6q h2]
  exact zoo e1
 ·rintro i hi ⟨r,hr⟩
  rfl
end
end Go.Proofs.YtjbnebolfnjneaaGreatDoor.Ev
