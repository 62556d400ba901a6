/- Plain values for a program that runs on a machine: an evaluator of loaded code and the proof that it tells what the machine does (part 4 of 5). No conditions: definitions and lemmas over any program. -/
import Derived.Test.YtioaaljaohhjiaaGreatDoorEv3
import Derived.Orders
import Derived.Deep.LoopGhost
set_option linter.unusedVariables false
set_option linter.unusedSimpArgs false
namespace Go.Proofs.YtioaaljaohhjiaaGreatDoor.Ev
open Go.RowKit

section
variable {P : Program} {E : Env} {w0 : World} {ok O : Nat → Prop} {σ σ' : St} {tm : Array Value} {w w' : World} {M : Map} {a : Act}

def z3f_ (σ:St) (o:Oper) (x:Out):St:=(σ.add x.2.1 x.2.2).put o.dst x.1
def TrOK (E:Env) (all:List Oper) (p i:Nat) (σ:St) (o:Oper) (x:Out):Prop :=
 (z2w_ all o (σ.hide (z28_ all p i)) (some true) (some false)=some true∧zo_ E (σ.hide (z28_ all p i)) o=some x∧σ.fresh (zq_ o) x.2.1 x.2.2=true) ∨
 (z2w_ all o (σ.hide (z28_ all p i)) (some true) (some false)=some false∧x=(.tup .nl,[],[]))
inductive Trace (E:Env) (all:List Oper):List Nat→Nat→List Oper→St→List Out→St→Prop where
 | nil (i:Nat) (l:List Oper) (σ:St):Trace E all [] i l σ [] σ
 | cons {p:Nat} {ps:List Nat} {i:Nat} {o:Oper} {l:List Oper} {σ σ':St} {x:Out} {xs:List Out}:TrOK E all p i σ o x→Trace E all ps (i+1) l (z3f_ σ o x) xs σ'→Trace E all (p::ps) i (o::l) σ (x::xs) σ'

theorem zt7_ {R0:Type} {res:R0} {all:List Oper} {o:Oper} {yes no:Option R0} (h:z2w_ all o σ yes no=some res) :
  (z2w_ all o σ (some true) (some false)=some true∧yes=some res)∨(z2w_ all o σ (some true) (some false)=some false∧no=some res):=by
 cases hg:o.guard with
 | none=>simp only [z2w_,hg] at h ⊢; exact .inl ⟨trivial,h⟩
 | some gw =>
  obtain ⟨g,want⟩:=gw
  simp only [z2w_,hg] at h ⊢
  cases hd:z5r_ all g with
  | none=>simp only [hd] at h; cases h
  | some d =>
   simp only [hd] at h ⊢
   split at h
   ·rename_i b hb
    by_cases e:b=want
    ·rw [if_pos e] at h; exact .inl ⟨by rw [if_pos e],h⟩
    ·rw [if_neg e] at h; exact .inr ⟨by rw [if_neg e],h⟩
   ·exact .inr ⟨rfl,h⟩
   ·cases h
theorem zt8_ {R0:Type} {res:R0} {all:List Oper} {i:Nat} {s:SV} {k:SV→Option R0} (h:zi7_ all i s k=some res):k s=some res:=by
 unfold zi7_ at h
 cases hg:zd2_ all i <;> rw [hg] at h
 ·exact h
 ·simp only [cond_true] at h
  split at h
  ·split at h
   ·rename_i b hb; subst hb; exact h
   ·rename_i b hb
    have:b=false:=by simpa using hb
    subst this; exact h
  ·cases h

theorem ziv_ {R0:Type} {res:R0} {all:List Oper} {k:St→Option R0}:∀ (ps:List Nat) (i:Nat) (l:List Oper) (σ:St),z8k_ E all ps i l σ k=some res →
  ∃ outs σ',Trace E all ps i l σ outs σ'∧outs.length=ps.length∧ps.length≤l.length∧opsC E all (i+ps.length) (l.drop ps.length) (σ'.promAll E) k=some res
 | [],i,l,σ,h=>⟨[],σ,.nil i l σ,rfl,Nat.zero_le _,by simpa [z8k_] using h⟩
 | p::ps,i,[],σ,h=>by cases h
 | p::ps,i,o::l,σ,h=>by
  simp only [z8k_] at h
  rcases zt7_ h with ⟨hw,h⟩ | ⟨hw,h⟩
  ·rw [zlt_] at h
   obtain ⟨out,h1,h2⟩:=Option.bind_eq_some_iff.1 h
   cases hf:σ.fresh (zq_ o) out.2.1 out.2.2 <;> rw [hf] at h2
   ·cases h2
   ·simp only [cond_true] at h2
    obtain ⟨outs,σ',g1,g2,g3,g4⟩:=ziv_ ps (i+1) l _ (zt8_ h2)
    exact ⟨out::outs,σ',.cons (.inl ⟨hw,h1,hf⟩) g1,by simp [g2],by simp; exact g3,by rw [List.length_cons,List.drop_succ_cons,show i+(ps.length+1)=i+1+ps.length by omega]; exact g4⟩
  ·obtain ⟨outs,σ',g1,g2,g3,g4⟩:=ziv_ ps (i+1) l _ h
   exact ⟨(.tup .nl,[],[])::outs,σ',.cons (.inr ⟨hw,rfl⟩) g1,by simp [g2],by simp; exact g3,by rw [List.length_cons,List.drop_succ_cons,show i+(ps.length+1)=i+1+ps.length by omega]; exact g4⟩

structure Chars (base:St) (l:List Oper) (outs:List Out) (j:Nat) (σ:St):Prop where
 sl:∀ s v,lk σ.sl s=some v→lk base.sl s=some v∨∃ t o x,t<j∧l[t]?=some o∧outs[t]?=some x∧o.dst=some s∧v=x.1
 rows:∀ i r,lk σ.rows i=some r→lk base.rows i=some r∨∃ t x,t<j∧outs[t]?=some x∧lk x.2.1 i=some r
 bx:∀ i b,lk σ.bx i=some b→lk base.bx i=some b∨∃ t x,t<j∧outs[t]?=some x∧lk x.2.2 i=some b
 rows':∀ i,(∃ r,lk base.rows i=some r)→∃ r,lk σ.rows i=some r
 bx':∀ i,(∃ r,lk base.bx i=some r)→∃ r,lk σ.bx i=some r
 rowsO:∀ t x i,t<j→outs[t]?=some x→(∃ r,lk x.2.1 i=some r)→∃ r,lk σ.rows i=some r
 bxO:∀ t x i,t<j→outs[t]?=some x→(∃ r,lk x.2.2 i=some r)→∃ r,lk σ.bx i=some r

theorem zt9_ {o:Oper} {x:Out} (s:Nat) (v:SV) (h:lk (z3f_ σ o x).sl s=some v):(o.dst=some s∧v=x.1)∨lk σ.sl s=some v:=by
 unfold z3f_ at h
 cases hd:o.dst with
 | none=>rw [hd] at h; exact .inr h
 | some d =>
  rw [hd] at h
  simp only [St.put,zm_] at h
  split at h
  ·rename_i e; cases h; exact .inl ⟨by rw [e],rfl⟩
  ·exact .inr h
theorem zdv_ {o:Oper} {x:Out}:(z3f_ σ o x).rows=x.2.1++σ.rows:=z40_ _ _
theorem zdw_ {o:Oper} {x:Out}:(z3f_ σ o x).bx=x.2.2++σ.bx:=z3b_ _ _

theorem zta_ {all:List Oper}:∀ {ps:List Nat} {i:Nat} {l:List Oper} {σ:St} {outs:List Out} {σ':St},Trace E all ps i l σ outs σ' →
  (∀ j,j<outs.length→∃ σj o x p,l[j]?=some o∧outs[j]?=some x∧ps[j]?=some p∧TrOK E all p (i+j) σj o x∧Chars σ l outs j σj)∧Chars σ l outs outs.length σ':=by
 intro ps i l σ outs σ' h
 induction h with
 | nil i l σ=>exact ⟨fun j hj=>absurd hj (Nat.not_lt_zero _),⟨fun s v h=>.inl h,fun i r h=>.inl h,fun i b h=>.inl h,fun i h=>h,fun i h=>h,fun t x i ht=>absurd ht (Nat.not_lt_zero _),fun t x i ht=>absurd ht (Nat.not_lt_zero _)⟩⟩
 | @cons p ps i o l σ σ' x xs h1 h2 ih =>
  obtain ⟨ih1,ih2⟩:=ih
  have up:∀ {j σj},Chars (z3f_ σ o x) l xs j σj→Chars σ (o::l) (x::xs) (j+1) σj:=by
   intro j σj hc
   refine ⟨fun s v h=>?_,fun k r h=>?_,fun k b h=>?_,fun k hk=>hc.rows' k ?_,fun k hk=>hc.bx' k ?_,fun t x' k ht hx' hk=>?_,fun t x' k ht hx' hk=>?_⟩
   ·rcases hc.sl s v h with h | ⟨t,o',x',ht,h3,h4,h5,h6⟩
    ·rcases zt9_ s v h with ⟨h3,h4⟩ | h
     ·exact .inr ⟨0,o,x,Nat.succ_pos _,rfl,rfl,h3,h4⟩
     ·exact .inl h
    ·exact .inr ⟨t+1,o',x',Nat.succ_lt_succ ht,h3,h4,h5,h6⟩
   ·rcases hc.rows k r h with h | ⟨t,x',ht,h4,h5⟩
    ·rw [zdv_,z1c_] at h
     cases hq:lk x.2.1 k with
     | some r'=>rw [hq] at h; cases h; exact .inr ⟨0,x,Nat.succ_pos _,rfl,hq⟩
     | none=>rw [hq] at h; exact .inl h
    ·exact .inr ⟨t+1,x',Nat.succ_lt_succ ht,h4,h5⟩
   ·rcases hc.bx k b h with h | ⟨t,x',ht,h4,h5⟩
    ·rw [zdw_,z1c_] at h
     cases hq:lk x.2.2 k with
     | some r'=>rw [hq] at h; cases h; exact .inr ⟨0,x,Nat.succ_pos _,rfl,hq⟩
     | none=>rw [hq] at h; exact .inl h
    ·exact .inr ⟨t+1,x',Nat.succ_lt_succ ht,h4,h5⟩
   ·obtain ⟨r,hr⟩:=hk
    rw [zdv_,z1c_,hr]
    cases lk x.2.1 k with
    | some r'=>exact ⟨r',rfl⟩
    | none=>exact ⟨r,rfl⟩
   ·obtain ⟨r,hr⟩:=hk
    rw [zdw_,z1c_,hr]
    cases lk x.2.2 k with
    | some r'=>exact ⟨r',rfl⟩
    | none=>exact ⟨r,rfl⟩
   ·cases t with
    | zero =>
     cases hx'
     obtain ⟨r,hr⟩:=hk
     exact hc.rows' k ⟨r,by rw [zdv_,z1c_,hr]; rfl⟩
    | succ t=>exact hc.rowsO t x' k (Nat.lt_of_succ_lt_succ ht) hx' hk
   ·cases t with
    | zero =>
     cases hx'
     obtain ⟨r,hr⟩:=hk
     exact hc.bx' k ⟨r,by rw [zdw_,z1c_,hr]; rfl⟩
    | succ t=>exact hc.bxO t x' k (Nat.lt_of_succ_lt_succ ht) hx' hk
  refine ⟨fun j hj=>?_,up ih2⟩
  cases j with
  | zero=>exact ⟨σ,o,x,p,rfl,rfl,rfl,h1,⟨fun s v h=>.inl h,fun i r h=>.inl h,fun i b h=>.inl h,fun i h=>h,fun i h=>h,fun t x i ht=>absurd ht (Nat.not_lt_zero _),fun t x i ht=>absurd ht (Nat.not_lt_zero _)⟩⟩
  | succ j =>
   obtain ⟨σj,o',x',p',g1,g2,g3,g4,g5⟩:=ih1 j (by simpa using hj)
   exact ⟨σj,o',x',p',g1,g2,g3,by rw [show i+(j+1)=i+1+j by omega]; exact g4,up g5⟩

structure Done (base:St) (all:List Oper) (outs:List Out) (D:Nat→Prop) (σ:St):Prop where
 sl:∀ s v,lk base.sl s=some v→lk σ.sl s=some v
 out:∀ j o x d,D j→all[j]?=some o→outs[j]?=some x→o.dst=some d→lk σ.sl d=some x.1
 rows:∀ i r,lk base.rows i=some r→lk σ.rows i=some r
 rowsO:∀ j x i r,D j→outs[j]?=some x→lk x.2.1 i=some r→lk σ.rows i=some r
 bx:∀ i r,lk base.bx i=some r→lk σ.bx i=some r
 bxO:∀ j x i r,D j→outs[j]?=some x→lk x.2.2 i=some r→lk σ.bx i=some r
 rowsB:∀ i r,lk σ.rows i=some r→lk base.rows i=some r∨∃ j x r',D j∧outs[j]?=some x∧lk x.2.1 i=some r'
 bxB:∀ i r,lk σ.bx i=some r→lk base.bx i=some r∨∃ j x r',D j∧outs[j]?=some x∧lk x.2.2 i=some r'

theorem z7b_ {α:Type} (q:Nat→Bool):∀ (l:List (Nat×α)) (n:Nat),lk (l.filter fun x=>q x.1) n=if q n=true then lk l n else none
 | [],n=>by simp [lk]
 | (k,v)::l,n=>by
  rw [List.filter_cons]
  by_cases hk:q k=true
  ·rw [if_pos hk,zm_,zm_,z7b_ q l n]
   by_cases hkn:k=n
   ·subst hkn; simp [hk]
   ·simp [hkn]
  ·rw [if_neg hk,z7b_ q l n,zm_]
   by_cases hkn:k=n
   ·subst hkn; simp [hk]
   ·simp [hkn]
theorem zdx_ {ds:List Nat} {n:Nat}:(!(ds.any (Nat.beq n)))=true↔n∉ds:=by
 simp only [Bool.not_eq_true',List.any_eq_false]
 constructor
 ·intro h hm; have:=h n hm; simp at this
 ·intro h x hx hb; exact h (Nat.eq_of_beq_eq_true hb▸hx)

theorem ztb_ {all:List Oper} {p i j d:Nat} (hj:j<i) (hp:p.testBit j=false) (hd:z5r_ all j=some d):d∈z28_ all p i:=by
 unfold z28_
 exact List.mem_filterMap.2 ⟨j,List.mem_range.2 hj,by rw [hp]; exact hd⟩
end
end Go.Proofs.YtioaaljaohhjiaaGreatDoor.Ev

namespace Go.Proofs.YtioaaljaohhjiaaGreatDoor.Ev
open Go.RowKit

theorem ziw_:∀ (l:List Oper) (acc:List Nat),∃ r,zz_ l acc=acc++r∧r.length=l.length
 | [],acc=>⟨[],by simp [zz_],rfl⟩
 | o::l,acc=>by
  obtain ⟨r,h1,h2⟩:=ziw_ l (acc++[z5s_ acc o])
  exact ⟨z5s_ acc o::r,by simp only [zz_]; rw [h1]; simp,by simp [h2]⟩
theorem znl_:∀ (l:List Oper) (acc:List Nat) (j:Nat) (o:Oper),l[j]?=some o→∃ acc',(zz_ l acc)[acc.length+j]?=some (z5s_ acc' o)∧acc'=(zz_ l acc).take (acc.length+j)
 | [],acc,j,o,h=>by simp at h
 | o'::l,acc,j,o,h=>by
  obtain ⟨r,h1,h2⟩:=ziw_ l (acc++[z5s_ acc o'])
  cases j with
  | zero =>
   simp at h
   subst h
   refine ⟨acc,?_,?_⟩
   ·simp only [zz_]; rw [h1]; simp
   ·simp only [zz_]; rw [h1]; simp
  | succ j =>
   simp only [List.getElem?_cons_succ] at h
   obtain ⟨acc',h3,h4⟩:=znl_ l (acc++[z5s_ acc o']) j o h
   refine ⟨acc',?_,?_⟩
   ·simp only [zz_]
    rw [show acc.length+(j+1)=(acc++[z5s_ acc o']).length+j by simp; omega]
    exact h3
   ·rw [h4]
    simp only [zz_]
    congr 1
    simp; omega
theorem ztc_ (before:List Nat) (o:Oper) (t:Nat) (h:(z5s_ before o).testBit t=true):∃ e∈o.after.toList,Region.binds .any e=true∧(t=e.on∨(before.getD e.on 0).testBit t=true):=by
 have key:∀ (l:List Edge) (s:Nat),(l.foldl (fun s e=>bif Region.binds .any e then Nat.lor s (Nat.lor (2 ^ e.on) (before.getD e.on 0)) else s) s).testBit t=true→s.testBit t=true∨∃ e∈l,Region.binds .any e=true∧(t=e.on∨(before.getD e.on 0).testBit t=true):=by
  intro l
  induction l with
  | nil=>intro s h; exact .inl h
  | cons e l ih =>
   intro s h
   rw [List.foldl_cons] at h
   rcases ih _ h with h | ⟨e',h1,h2⟩
   ·cases hb:Region.binds .any e <;> rw [hb] at h
    ·exact .inl h
    ·simp only [cond_true] at h
     have h':(s ||| (2 ^ e.on ||| before.getD e.on 0)).testBit t=true:=h
     rw [Nat.testBit_or,Nat.testBit_or,Bool.or_eq_true,Bool.or_eq_true] at h'
     rcases h' with h | h | h
     ·exact .inl h
     ·refine .inr ⟨e,by simp,hb,.inl ?_⟩
      rw [Nat.testBit_two_pow] at h
      exact (of_decide_eq_true h).symm
     ·exact .inr ⟨e,by simp,hb,.inr h⟩
   ·exact .inr ⟨e',by simp [h1],h2⟩
 rcases key _ 0 h with h | h
 ·simp at h
 ·exact h
theorem zbx_:∀ {l:List Oper} {i:Nat},z5t_ i l=true→∀ (j:Nat) (o:Oper),l[j]?=some o→∀ e∈o.after.toList,Region.binds .any e=true→e.on<i+j
 | [],i,h,j,o,hj,e,he,hb=>by simp at hj
 | o'::l,i,h,j,o,hj,e,he,hb=>by
  simp only [z5t_,Bool.and_eq_true,List.all_eq_true] at h
  cases j with
  | zero =>
   simp at hj
   subst hj
   have:=h.1 e he
   rw [hb] at this
   simp only [Bool.not_true,Bool.false_or] at this
   have:=Nat.le_of_ble_eq_true this
   omega
  | succ j =>
   simp only [List.getElem?_cons_succ] at hj
   have:=zbx_ h.2 j o hj e he hb
   omega
theorem znm_ {n p:Nat} (h:z5u_ n p=true) {j:Nat} (hj:j<n):p.testBit j=true:=by
 have e:=Nat.eq_of_beq_eq_true h
 have h1:(p % 2 ^ n).testBit j=true:=by rw [e,Nat.testBit_two_pow_sub_one]; simp [hj]
 rw [Nat.testBit_mod_two_pow] at h1
 simp only [Bool.and_eq_true] at h1
 exact h1.2
theorem zix_:∀ (ps:List Nat) (i j p:Nat),z38_ ps i≤j→ps[j]?=some p→z5u_ (i+j) p=true
 | [],i,j,p,_,h=>by simp at h
 | q::ps,i,j,p,hj,h=>by
  simp only [z38_] at hj
  cases hf:z38_ ps (i+1) with
  | zero =>
   rw [hf] at hj
   simp only [] at hj
   cases j with
   | zero =>
    simp at h
    subst h
    cases ht:z5u_ i q <;> rw [ht] at hj
    ·simp at hj
   | succ j =>
    simp only [List.getElem?_cons_succ] at h
    have:=zix_ ps (i+1) j p (by omega) h
    rw [show i+(j+1)=i+1+j by omega]; exact this
  | succ n =>
   rw [hf] at hj
   simp only [] at hj
   cases j with
   | zero=>omega
   | succ j =>
    simp only [List.getElem?_cons_succ] at h
    have:=zix_ ps (i+1) j p (by omega) h
    rw [show i+(j+1)=i+1+j by omega]; exact this

def ziy_ (all:List Oper) (D:Nat→Prop):Prop:=∀ j o,D j→all[j]?=some o→∀ e∈o.after.toList,Region.binds .any e=true→D e.on
theorem znn_ {all:List Oper} (hE:z5t_ 0 all=true) {D:Nat→Prop} (hD:ziy_ all D):∀ (j:Nat) (o:Oper),all[j]?=some o→(∀ e∈o.after.toList,Region.binds .any e=true→D e.on)→∀ t,((zz_ all []).getD j 0).testBit t=true→D t:=by
 intro j
 induction j using Nat.strongRecOn with
 | _ j ih =>
  intro o ho he t ht
  obtain ⟨acc',h1,h2⟩:=znl_ all [] j o ho
  rw [List.length_nil,Nat.zero_add] at h1 h2
  rw [List.getD_eq_getElem?_getD,h1] at ht
  obtain ⟨e,e1,e2,e3⟩:=ztc_ acc' o t ht
  rcases e3 with rfl | e3
  ·exact he e e1 e2
  ·have hlt:=zbx_ hE j o ho e e1 e2
   rw [Nat.zero_add] at hlt
   rw [h2,List.getD_eq_getElem?_getD,List.getElem?_take_of_lt hlt,← List.getD_eq_getElem?_getD] at e3
   have hol:e.on<all.length:=Nat.lt_trans hlt (List.getElem?_eq_some_iff.1 ho).1
   have hdon:=he e e1 e2
   exact ih e.on hlt all[e.on] (List.getElem?_eq_getElem hol) (fun e' h3 h4=>hD e.on _ hdon (List.getElem?_eq_getElem hol) e' h3 h4) t e3

section
variable {P : Program} {E : Env} {w0 : World} {ok O : Nat → Prop} {σ σ' : St} {tm : Array Value} {w w' : World} {M : Map} {a : Act}

theorem zno_ {α:Type}:∀ {l:List (Nat×α)} {x:Nat×α},x∈l→∃ v,lk l x.1=some v
 | (k,v)::l,x,h=>by
  rw [zm_]
  by_cases hk:k=x.1
  ·exact ⟨v,by rw [if_pos hk]⟩
  ·rw [if_neg hk]
   rcases List.mem_cons.1 h with rfl | h
   ·exact absurd rfl hk
   ·exact zno_ h
theorem ztd_ {d:Nat} {nr:List (Nat×Row)} {nb:List (Nat×Bx)} (h:σ.fresh d nr nb=true):(∀ i,(∃ r,lk nr i=some r)→i / 32=d)∧(∀ i,(∃ r,lk nb i=some r)→i=d):=by
 simp only [St.fresh,Bool.and_eq_true,List.all_eq_true] at h
 refine ⟨fun i ⟨r,hr⟩=>Nat.eq_of_beq_eq_true (h.1.1 _ (zx_ hr)).1.1,fun i hi=>?_⟩
 obtain ⟨r,hr⟩:=hi
 have h2:=h.2
 split at h2
 ·cases hr
 ·rename_i x
  simp only [Bool.and_eq_true] at h2
  rw [show ([x]:List (Nat×Bx))=[(x.1,x.2)] from rfl] at hr
  rw [(z2x_ hr).1]
  exact Nat.eq_of_beq_eq_true h2.1.1
 ·cases h2
theorem zte_ {d:Nat} {nr:List (Nat×Row)} {nb:List (Nat×Bx)} (h:σ.fresh d nr nb=true) (hr:∀ i,(∃ r,lk nr i=some r)→lk σ'.rows i=none) (hb:∀ i,(∃ r,lk nb i=some r)→lk σ'.bx i=none):σ'.fresh d nr nb=true:=by
 simp only [St.fresh,Bool.and_eq_true,List.all_eq_true] at h ⊢
 refine ⟨⟨fun x hx=>⟨(h.1.1 x hx).1,?_⟩,h.1.2⟩,?_⟩
 ·rw [hr x.1 (zno_ hx)]
 ·have h2:=h.2
  split at h2
  ·rfl
  ·rename_i x
   simp only [Bool.and_eq_true] at h2 ⊢
   exact ⟨h2.1,by rw [hb x.1 ⟨x.2,z3c_ _ _ _⟩]⟩
  ·cases h2

structure FreeP (E:Env) (all:List Oper) (m:Nat) (base:St) (outs:List Out):Prop where
 len:outs.length=m
 le:m≤all.length
 edges:z5t_ 0 all=true
 dst:∀ j o,j<m→all[j]?=some o→∃ d,o.dst=some d∧lk base.sl d=none
 dist:∀ i j o o' d,i<m→j<m→all[i]?=some o→all[j]?=some o'→o.dst=some d→o'.dst=some d→i=j
 at_:∀ j,j<m→∃ σj o x,all[j]?=some o∧outs[j]?=some x∧TrOK E all ((zz_ all []).getD j 0) j σj o x∧Chars base all outs j σj

theorem TrOK.ids {all:List Oper} {p i:Nat} {o:Oper} {x:Out} (h:TrOK E all p i σ o x):(∀ k,(∃ r,lk x.2.1 k=some r)→k / 32=zq_ o)∧(∀ k,(∃ r,lk x.2.2 k=some r)→k=zq_ o):=by
 rcases h with ⟨_,_,h⟩ | ⟨_,rfl⟩
 ·exact ztd_ h
 ·exact ⟨fun k ⟨r,hr⟩=>(nomatch hr),fun k ⟨r,hr⟩=>(nomatch hr)⟩
theorem FreeP.ids {all:List Oper} {m:Nat} {base:St} {outs:List Out} (F:FreeP E all m base outs) {t:Nat} {x:Out} (ht:t<m) (hx:outs[t]?=some x) :
  ∃ o d,all[t]?=some o∧o.dst=some d∧(∀ k,(∃ r,lk x.2.1 k=some r)→k / 32=d)∧(∀ k,(∃ r,lk x.2.2 k=some r)→k=d):=by
 obtain ⟨σj,o,x',h1,h2,h3,_⟩:=F.at_ t ht
 rw [hx] at h2
 cases h2
 obtain ⟨d,hd,_⟩:=F.dst t o ht h1
 have:=h3.ids
 have hs:zq_ o=d:=by simp [zq_,hd]
 rw [hs] at this
 exact ⟨o,d,h1,hd,this.1,this.2⟩

theorem ztf_ {all:List Oper} {m:Nat} {base:St} {outs:List Out} (F:FreeP E all m base outs) {D:Nat→Prop} {σD σj:St} (hD:Done base all outs D σD) {j p:Nat} (hj:j<m) (hp:∀ t,p.testBit t=true→D t) (hc:Chars base all outs j σj):Le (σj.hide (z28_ all p j)) σD:=by
 have tin:∀ t o d,t<j→all[t]?=some o→o.dst=some d→d∉z28_ all p j→D t:=by
  intro t o d ht ho hd hn
  cases hb:p.testBit t with
  | true=>exact hp t hb
  | false=>exact absurd (ztb_ ht hb (by simp [z5r_,ho,hd])) hn
 constructor
 ·intro s v h
  have h:lk (σj.sl.filter (fun x=>!((z28_ all p j).any (Nat.beq x.1)))) s=some v:=h
  rw [z7b_ (fun n=>!((z28_ all p j).any (Nat.beq n)))] at h
  split at h
  ·rename_i hs
   have hs:=zdx_.1 hs
   rcases hc.sl s v h with h | ⟨t,o,x,ht,ho,hx,hd,rfl⟩
   ·exact hD.sl s v h
   ·exact hD.out t o x s (tin t o s ht ho hd hs) ho hx hd
  ·cases h
 ·intro s v h
  have h:lk (σj.rows.filter (fun x=>!((z28_ all p j).any (Nat.beq (x.1 / 32))))) s=some v:=h
  rw [z7b_ (fun n=>!((z28_ all p j).any (Nat.beq (n / 32))))] at h
  split at h
  ·rename_i hs
   have hs:=zdx_.1 hs
   rcases hc.rows s v h with h | ⟨t,x,ht,hx,h⟩
   ·exact hD.rows s v h
   ·obtain ⟨o,d,ho,hd,h1,_⟩:=F.ids (Nat.lt_trans ht hj) hx
    exact hD.rowsO t x s v (tin t o d ht ho hd (by rw [← h1 s ⟨v,h⟩]; exact hs)) hx h
  ·cases h
 ·intro s v h
  have h:lk (σj.bx.filter (fun x=>!((z28_ all p j).any (Nat.beq x.1)))) s=some v:=h
  rw [z7b_ (fun n=>!((z28_ all p j).any (Nat.beq n)))] at h
  split at h
  ·rename_i hs
   have hs:=zdx_.1 hs
   rcases hc.bx s v h with h | ⟨t,x,ht,hx,h⟩
   ·exact hD.bx s v h
   ·obtain ⟨o,d,ho,hd,_,h1⟩:=F.ids (Nat.lt_trans ht hj) hx
    exact hD.bxO t x s v (tin t o d ht ho hd (by rw [← h1 s ⟨v,h⟩]; exact hs)) hx h
  ·cases h

theorem Done.step {all:List Oper} {m:Nat} {base:St} {outs:List Out} (F:FreeP E all m base outs) {D:Nat→Prop} {σD:St} (hD:Done base all outs D σD) (hDm:∀ t,D t→t<m) {j:Nat} (hj:j<m) {o:Oper} {x:Out} (ho:all[j]?=some o) (hx:outs[j]?=some x)
  (hfr:(∀ k,(∃ r,lk x.2.1 k=some r)→lk σD.rows k=none)∧(∀ k,(∃ r,lk x.2.2 k=some r)→lk σD.bx k=none)):Done base all outs (fun t=>t=j∨D t) (z3f_ σD o x):=by
 obtain ⟨d,hd,hb⟩:=F.dst j o hj ho
 have hsl:∀ s,lk (z3f_ σD o x).sl s=if d=s then some x.1 else lk σD.sl s:=by
  intro s
  unfold z3f_
  rw [hd]
  simp only [St.put,zm_]
  rfl
 have hrow:∀ k,lk (z3f_ σD o x).rows k=(lk x.2.1 k).or (lk σD.rows k):=fun k=>by rw [zdv_,z1c_]
 have hbx:∀ k,lk (z3f_ σD o x).bx k=(lk x.2.2 k).or (lk σD.bx k):=fun k=>by rw [zdw_,z1c_]
 have orR:∀ k r,lk σD.rows k=some r→lk (z3f_ σD o x).rows k=some r:=by
  intro k r h
  rw [hrow]
  cases hq:lk x.2.1 k with
  | some r'=>have:=hfr.1 k ⟨r',hq⟩; rw [h] at this; cases this
  | none=>exact h
 have orB:∀ k r,lk σD.bx k=some r→lk (z3f_ σD o x).bx k=some r:=by
  intro k r h
  rw [hbx]
  cases hq:lk x.2.2 k with
  | some r'=>have:=hfr.2 k ⟨r',hq⟩; rw [h] at this; cases this
  | none=>exact h
 constructor
 ·intro s v h
  rw [hsl]
  split
  ·rename_i e; subst e; rw [hb] at h; cases h
  ·exact hD.sl s v h
 ·intro t o' x' d' ht ho' hx' hd'
  rw [hsl]
  by_cases htj:t=j
  ·subst htj
   rw [ho] at ho'
   rw [hx] at hx'
   cases ho'; cases hx'
   rw [hd] at hd'
   cases hd'
   rw [if_pos rfl]
  ·rcases ht with h | ht
   ·exact absurd h htj
   ·rw [if_neg (fun e=>htj (F.dist t j o' o d' (hDm t ht) hj ho' ho hd' (by rw [hd,e])))]
    exact hD.out t o' x' d' ht ho' hx' hd'
 ·exact fun k r h=>orR k r (hD.rows k r h)
 ·intro t x' k r ht hx' h
  by_cases htj:t=j
  ·subst htj
   rw [hx] at hx'
   cases hx'
   rw [hrow,h]; rfl
  ·rcases ht with h2 | ht
   ·exact absurd h2 htj
   ·exact orR k r (hD.rowsO t x' k r ht hx' h)
 ·exact fun k r h=>orB k r (hD.bx k r h)
 ·intro t x' k r ht hx' h
  by_cases htj:t=j
  ·subst htj
   rw [hx] at hx'
   cases hx'
   rw [hbx,h]; rfl
  ·rcases ht with h2 | ht
   ·exact absurd h2 htj
   ·exact orB k r (hD.bxO t x' k r ht hx' h)
 ·intro k r h
  rw [hrow] at h
  cases hq:lk x.2.1 k with
  | some r'=>exact .inr ⟨j,x,r',.inl rfl,hx,hq⟩
  | none =>
   rw [hq] at h
   rcases hD.rowsB k r h with h | ⟨t,x',r',ht,h1,h2⟩
   ·exact .inl h
   ·exact .inr ⟨t,x',r',.inr ht,h1,h2⟩
 ·intro k r h
  rw [hbx] at h
  cases hq:lk x.2.2 k with
  | some r'=>exact .inr ⟨j,x,r',.inl rfl,hx,hq⟩
  | none =>
   rw [hq] at h
   rcases hD.bxB k r h with h | ⟨t,x',r',ht,h1,h2⟩
   ·exact .inl h
   ·exact .inr ⟨t,x',r',.inr ht,h1,h2⟩

theorem ztg_ [Glob P] {all:List Oper} {m n:Nat} {base:St} {outs:List Out} (T:zi_ P E.ti=true) (EQ:EqOK P E) (S:SpecOK P E w0 O) (F:FreeP E all m base outs) {D:Nat→Prop} {σD:St} (hD:Done base all outs D σD) (hDm:∀ t,D t→t<m) {j:Nat} (hj:j<m) (hnj:¬ D j)
  (hp:∀ t,((zz_ all []).getD j 0).testBit t=true→D t) (hB:∀ o∈all,∀ d,o.dst=some d→d<n) {a:Act} {w:World} {M:Map} (R:Rep E w0 ok O σD a.tmps w M) (hn:a.tmps.size=n) (hd:a.defers=[]) {K:Act→World→Prop} {Q:Exit→Act→World→Prop}
  (hK:∀ σ' a' w' M',Done base all outs (fun t=>t=j∨D t) σ'→Rep E w0 ok O σ' a'.tmps w' M'→a'.tmps.size=n→a'.defers=[]→K a' w'):wpOp P all.toArray Q j K a w:=by
 obtain ⟨σj,o,x,ho,hx,htr,hc⟩:=F.at_ j hj
 have hle:=ztf_ F hD hj hp hc
 have hin:inB o.dst a.tmps:=fun d hd=>by rw [hn]; exact hB o (List.mem_of_getElem? ho) d hd
 have hoa:all.toArray[j]?=some o:=by simpa using ho
 have hfr:(∀ k,(∃ r,lk x.2.1 k=some r)→lk σD.rows k=none)∧(∀ k,(∃ r,lk x.2.2 k=some r)→lk σD.bx k=none):=by
  obtain ⟨o',d,ho',hd',i1,i2⟩:=F.ids hj hx
  rcases htr with ⟨_,_,hf⟩ | ⟨_,rfl⟩
  ·refine ⟨fun k hk=>?_,fun k hk=>?_⟩
   ·cases hq:lk σD.rows k with
    | none=>rfl
    | some r =>
     exfalso
     rcases hD.rowsB k r hq with h | ⟨t,x',r',ht,h1,h2⟩
     ·obtain ⟨r2,hr2⟩:=hc.rows' k ⟨r,h⟩
      rw [zd8_ hf hk] at hr2; cases hr2
     ·obtain ⟨o2,d2,ho2,hd2,i3,_⟩:=F.ids (hDm t ht) h1
      have e:d2=d:=(i3 k ⟨r',h2⟩).symm.trans (i1 k hk)
      subst e
      have:=F.dist t j o2 o' d2 (hDm t ht) hj ho2 ho' hd2 hd'
      exact hnj (this▸ht)
   ·cases hq:lk σD.bx k with
    | none=>rfl
    | some r =>
     exfalso
     rcases hD.bxB k r hq with h | ⟨t,x',r',ht,h1,h2⟩
     ·obtain ⟨r2,hr2⟩:=hc.bx' k ⟨r,h⟩
      rw [z8r_ hf hk] at hr2; cases hr2
     ·obtain ⟨o2,d2,ho2,hd2,_,i3⟩:=F.ids (hDm t ht) h1
      have e:d2=d:=(i3 k ⟨r',h2⟩).symm.trans (i2 k hk)
      subst e
      have:=F.dist t j o2 o' d2 (hDm t ht) hj ho2 ho' hd2 hd'
      exact hnj (this▸ht)
  ·exact ⟨fun k ⟨r,hr⟩=>(nomatch hr),fun k ⟨r,hr⟩=>(nomatch hr)⟩
 have hnext:=Done.step F hD hDm hj ho hx hfr
 have wm:∀ {b:Bool},z2w_ all o (σj.hide (z28_ all ((zz_ all []).getD j 0) j)) (some true) (some false)=some b→z2w_ all o σD (some true) (some false)=some b:=by
  intro b h
  unfold z2w_ at h ⊢
  cases hg:o.guard with
  | none=>rw [hg] at h; exact h
  | some gw =>
   rw [hg] at h
   simp only [] at h ⊢
   cases hdd:z5r_ all gw.1 with
   | none=>rw [hdd] at h; cases h
   | some dd =>
    rw [hdd] at h
    simp only [] at h ⊢
    cases hq:lk (σj.hide (z28_ all ((zz_ all []).getD j 0) j)).sl dd with
    | none=>rw [hq] at h; cases h
    | some v=>rw [hle.sl dd v hq]; rw [hq] at h; exact h
 unfold wpOp
 rw [hoa]
 simp only []
 rcases htr with ⟨hw,hpu,hf⟩ | ⟨hw,rfl⟩
 ·rcases zdu_ R (wm hw) with ⟨hw1,_⟩ | ⟨_,h2⟩
  ·rw [if_pos hw1]
   have hpu':zo_ E σD o=some x:=zr1_ hle hpu
   have hf':σD.fresh (zq_ o) x.2.1 x.2.2=true:=zte_ hf hfr.1 hfr.2
   refine .inl (zn1_ R rfl T EQ S hpu' hf' K Q fun v w' M' X=>?_)
   refine hK _ _ w' M' hnext ?_ (by rw [z1p_,z3z_,hn]) (by rw [z3y_]; exact hd)
   rw [z1p_]
   exact R.add hf' X hin
  ·cases h2
 ·rcases zdu_ R (wm hw) with ⟨_,h2⟩ | ⟨hw1,_⟩
  ·cases h2
  ·rw [if_neg (by rw [hw1]; simp)]
   refine hK _ _ w M hnext ?_ (by rw [z1p_,z3z_,hn]) (by rw [z3y_]; exact hd)
   rw [z1p_]
   exact R.putSkip hin
end
end Go.Proofs.YtioaaljaohhjiaaGreatDoor.Ev

namespace Go.Proofs.YtioaaljaohhjiaaGreatDoor.Ev
open Go.RowKit

section
variable {P : Program} {E : Env} {w0 : World} {ok O : Nat → Prop} {σ σ' : St} {tm : Array Value} {w w' : World} {M M' : Map} {a : Act}

theorem znp_ {t:Ty} (hf:t.flat=true):∀ {s:SV} {cs:List Value} {xs:List t.T},RepB w0 ok M s cs→zd3_ t s=some xs→∃ ls:List (L t),ls.map (erase t)=xs∧ls.flatMap (z6_ t)=cs∧ls.length=s.count
 | .nl,cs,xs,h,hx=>by
  simp only [RepB] at h
  subst h
  cases hx
  exact ⟨[],rfl,rfl,rfl⟩
 | .cns a b,cs,xs,h,hx=>by
  obtain ⟨c1,c2,rfl,h1,h2⟩:=h
  simp only [zd3_] at hx
  split at hx
  ·rename_i u x ys hy
   split at hx
   ·rename_i e
    subst e
    cases hx
    obtain ⟨ls,g1,g2,g3⟩:=znp_ hf h2 hy
    obtain ⟨l,k1,k2,_⟩:=z78_ hf h1
    exact ⟨l::ls,by simp [g1,k1],by simp [g2,k2],by simp [g3,SV.count]⟩
   ·cases hx
  ·cases hx
 | .val _ _,_,_,_,hx=>by cases hx
 | .ref _ _,_,_,_,hx=>by cases hx
 | .vw _ _ _,_,_,_,hx=>by cases hx
 | .ls _,_,_,_,hx=>by cases hx
 | .st _,_,_,_,hx=>by cases hx
 | .pr _ _,_,_,_,hx=>by cases hx
 | .bp _ _ _,_,_,_,hx=>by cases hx
 | .ep _ _ _ _ _,_,_,_,hx=>by cases hx
 | .lp _ _,_,_,_,hx=>by cases hx
 | .clo _ _,_,_,_,hx=>by cases hx
 | .tup _,_,_,_,hx=>by cases hx
 | .no,_,_,_,hx=>by cases hx
 | .un,_,_,_,hx=>by cases hx

theorem zdy_ (j i:Nat) (s:SV):(s.lsRef j i).isSt=s.isSt∧(s.lsRef j i).count=s.count∧(s.lsRef j i).isCh=s.isCh∧(∀ k∈(s.lsRef j i).roots,k∈s.roots∨(k=i∧j∈s.boxes))∧∀ k∈(s.lsRef j i).boxes,k∈s.boxes∧k≠j:=by
 induction s with
 | st s ih=>exact ⟨rfl,rfl,rfl,ih.2.2.2.1,ih.2.2.2.2⟩
 | tup s ih=>exact ⟨rfl,rfl,rfl,ih.2.2.2.1,ih.2.2.2.2⟩
 | clo g s ih=>exact ⟨rfl,rfl,rfl,ih.2.2.2.1,ih.2.2.2.2⟩
 | pr a b iha ihb =>
  refine ⟨rfl,rfl,rfl,fun k hk=>?_,fun k hk=>?_⟩
  ·simp only [SV.lsRef,SV.roots,SV.boxes,List.mem_append] at hk ⊢
   rcases hk with hk | hk
   ·exact (iha.2.2.2.1 k hk).elim (fun h=>.inl (.inl h)) fun h=>.inr ⟨h.1,.inl h.2⟩
   ·exact (ihb.2.2.2.1 k hk).elim (fun h=>.inl (.inr h)) fun h=>.inr ⟨h.1,.inr h.2⟩
  ·simp only [SV.lsRef,SV.boxes,List.mem_append] at hk ⊢
   rcases hk with hk | hk
   ·exact ⟨.inl (iha.2.2.2.2 k hk).1,(iha.2.2.2.2 k hk).2⟩
   ·exact ⟨.inr (ihb.2.2.2.2 k hk).1,(ihb.2.2.2.2 k hk).2⟩
 | cns a b iha ihb =>
  refine ⟨rfl,by simp [SV.lsRef,SV.count,ihb.2.1],rfl,fun k hk=>?_,fun k hk=>?_⟩
  ·simp only [SV.lsRef,SV.roots,SV.boxes,List.mem_append] at hk ⊢
   rcases hk with hk | hk
   ·exact (iha.2.2.2.1 k hk).elim (fun h=>.inl (.inl h)) fun h=>.inr ⟨h.1,.inl h.2⟩
   ·exact (ihb.2.2.2.1 k hk).elim (fun h=>.inl (.inr h)) fun h=>.inr ⟨h.1,.inr h.2⟩
  ·simp only [SV.lsRef,SV.boxes,List.mem_append] at hk ⊢
   rcases hk with hk | hk
   ·exact ⟨.inl (iha.2.2.2.2 k hk).1,(iha.2.2.2.2 k hk).2⟩
   ·exact ⟨.inr (ihb.2.2.2.2 k hk).1,(ihb.2.2.2.2 k hk).2⟩
 | ls k =>
  simp only [SV.lsRef]
  cases h:Nat.beq j k
  ·refine ⟨rfl,rfl,rfl,by simp [SV.roots],fun q hq=>?_⟩
   simp only [cond_false,SV.boxes,List.mem_singleton] at hq ⊢
   subst hq
   exact ⟨rfl,fun e=>z2j_ h e.symm⟩
  ·have:=Nat.eq_of_beq_eq_true h
   subst this
   exact ⟨rfl,rfl,rfl,by simp [SV.roots,SV.boxes],by simp [SV.boxes]⟩
 | lp k n =>
  simp only [SV.lsRef]
  cases h:Nat.beq j k
  ·refine ⟨rfl,rfl,rfl,by simp [SV.roots],fun q hq=>?_⟩
   simp only [cond_false,SV.boxes,List.mem_singleton] at hq ⊢
   subst hq
   exact ⟨rfl,fun e=>z2j_ h e.symm⟩
  ·exact ⟨rfl,rfl,rfl,by simp [SV.roots],by simp [SV.boxes]⟩
 | bp k p o =>
  simp only [SV.lsRef]
  cases h:Nat.beq j k
  ·refine ⟨rfl,rfl,rfl,by simp [SV.roots],fun q hq=>?_⟩
   simp only [cond_false,SV.boxes,List.mem_singleton] at hq ⊢
   subst hq
   exact ⟨rfl,fun e=>z2j_ h e.symm⟩
  ·exact ⟨rfl,rfl,rfl,by simp [SV.roots],by simp [SV.boxes]⟩
 | _=>exact ⟨rfl,rfl,rfl,fun k hk=>.inl hk,fun k hk=>absurd hk (by simp [SV.lsRef,SV.boxes])⟩
structure Turned (M M':Map) (j i:Nat):Prop where
 loc:∀ k,k≠i→M'.loc k=M.loc k
 blk:∀ k,M'.blk k=M.blk k∧M'.bn k=M.bn k∧M'.bw k=M.bw k
 row:∃ e t,∃ l:L (.sl e t),M'.loc i=⟨.sl e t,l⟩∧l.1=some (M.blk j)∧l.2.1=M.bn j∧l.2.2.length=M.bn j
theorem z2a_ {j i:Nat} (H:Turned M M' j i):∀ {s:SV} {cs:List Value},(∀ k∈s.roots,k≠i)→RepV w0 ok M s cs→RepV w0 ok M' (s.lsRef j i) cs
 | .val t x,cs,_,h=>h
 | .ref k p,cs,hr,h=>by
  obtain ⟨e,t,l,h1,h2⟩:=h
  exact ⟨e,t,l,by rw [H.loc k (hr k (by simp [SV.roots]))]; exact h1,h2⟩
 | .vw k lo n,cs,hr,h=>by
  obtain ⟨e,t,l,h1,h2⟩:=h
  exact ⟨e,t,l,by rw [H.loc k (hr k (by simp [SV.roots]))]; exact h1,h2⟩
 | .ls k,cs,hr,h=>by
  simp only [RepV] at h
  subst h
  simp only [SV.lsRef]
  cases hb:Nat.beq j k
  ·show [_]=[_]
   rw [(H.blk k).1,(H.blk k).2.1]
  ·have:=Nat.eq_of_beq_eq_true hb
   subst this
   obtain ⟨e,t,l,h1,h2,h3,h4⟩:=H.row
   refine ⟨e,t,l,(congrArg (fun z:Loc=>subL z.1 z.2 []) h1).trans rfl,?_⟩
   simp only [z6_,h2,h3,h4,Option.map_some]
 | .st s,cs,hr,h=>z2a_ H (s:=s) hr h
 | .pr a b,cs,hr,h=>by
  obtain ⟨c1,c2,rfl,h1,h2⟩:=h
  exact ⟨c1,c2,rfl,z2a_ H (fun k hk=>hr k (by simp [SV.roots,hk])) h1,z2a_ H (fun k hk=>hr k (by simp [SV.roots,hk])) h2⟩
 | .bp k p o,cs,hr,h=>by
  simp only [RepV] at h
  subst h
  simp only [SV.lsRef]
  cases hb:Nat.beq j k
  ·show [_]=[_]
   rw [(H.blk k).1]
  ·exact ⟨_,rfl,rfl⟩
 | .ep k p n f o,cs,hr,h=>by
  obtain ⟨e,t,l,g,h1,h2⟩:=h
  exact ⟨e,t,l,g,by rw [H.loc k (hr k (by simp [SV.roots]))]; exact h1,h2⟩
 | .lp k n,cs,hr,h=>by
  obtain ⟨h1,rfl⟩:=h
  simp only [SV.lsRef]
  cases hb:Nat.beq j k
  ·refine ⟨by rw [(H.blk k).2.1]; exact h1,?_⟩
   rw [(H.blk k).1,(H.blk k).2.2]
  ·exact ⟨_,rfl,rfl⟩
 | .clo g c,cs,hr,h=>by
  obtain ⟨caps,rfl,h1⟩:=h
  exact ⟨caps,rfl,z2a_ H (s:=c) hr h1⟩
 | .no,cs,hr,h=>h
 | .un,cs,hr,h=>h
 | .tup _,_,_,h=>h.elim
 | .cns _ _,_,_,h=>h.elim
 | .nl,_,_,h=>h.elim
theorem zth_ {j i:Nat} (H:Turned M M' j i) {s:SV}:∀ {cs:List Value},(∀ k∈s.roots,k≠i)→RepB w0 ok M s cs→RepB w0 ok M' (s.lsRef j i) cs:=by
 induction s with
 | cns a b iha ihb =>
  intro cs hr h
  obtain ⟨c1,c2,rfl,h1,h2⟩:=h
  exact ⟨c1,c2,rfl,z2a_ H (fun k hk=>hr k (by simp [SV.roots,hk])) h1,ihb (fun k hk=>hr k (by simp [SV.roots,hk])) h2⟩
 | nl=>intro cs hr h; exact h
 | tup s _=>intro cs hr h; exact h.elim
 | ls k=>intro cs hr h; exact zn_ (z2a_ H (s:=.ls k) hr h)
 | val t x=>intro cs hr h; exact zn_ (z2a_ H (s:=.val t x) hr h)
 | ref k p=>intro cs hr h; exact zn_ (z2a_ H (s:=.ref k p) hr h)
 | vw k a b=>intro cs hr h; exact zn_ (z2a_ H (s:=.vw k a b) hr h)
 | st s _=>intro cs hr h; exact zn_ (z2a_ H (s:=.st s) hr h)
 | pr a b _ _=>intro cs hr h; exact zn_ (z2a_ H (s:=.pr a b) hr h)
 | bp k p o=>intro cs hr h; exact zn_ (z2a_ H (s:=.bp k p o) hr h)
 | ep k p n f o=>intro cs hr h; exact zn_ (z2a_ H (s:=.ep k p n f o) hr h)
 | lp k n=>intro cs hr h; exact zn_ (z2a_ H (s:=.lp k n) hr h)
 | clo g s _=>intro cs hr h; exact zn_ (z2a_ H (s:=.clo g s) hr h)
 | no=>intro cs hr h; exact h
 | un=>intro cs hr h; exact h
theorem zti_ {j i:Nat} (H:Turned M M' j i) {s:SV}:∀ {vs:List Value},(∀ k∈s.roots,k≠i)→RepT w0 ok M s vs→RepT w0 ok M' (s.lsRef j i) vs:=by
 induction s with
 | cns a b iha ihb =>
  intro vs hr h
  obtain ⟨v,vs',rfl,⟨cs,h1,h3⟩,h2⟩:=h
  exact ⟨v,vs',rfl,⟨cs,z2a_ H (fun k hk=>hr k (by simp [SV.roots,hk])) h1,by rw [(zdy_ j i a).1]; exact h3⟩,ihb (fun k hk=>hr k (by simp [SV.roots,hk])) h2⟩
 | nl=>intro vs hr h; exact h
 | _=>intro vs hr h; exact h.elim
theorem ztj_ {j i:Nat} (H:Turned M M' j i) {s:SV} {v:Value} (hr:∀ k∈s.roots,k≠i) (h:RepS w0 ok M s v):RepS w0 ok M' (s.lsRef j i) v:=by
 rcases z1w_ h with rfl | ⟨c,vs,rfl,rfl,h1⟩ | ⟨cs,h1,h2⟩
 ·trivial
 ·exact ⟨vs,rfl,zti_ H hr h1⟩
 ·refine z14_ (z2a_ H hr h1) ?_
  unfold z1o_
  rw [(zdy_ j i s).1]
  exact h2
theorem Rep.recontent (R:Rep E w0 ok O σ tm w M) {sl:List (Nat×SV)} {bx:List (Nat×Bx)} (hs:∀ s v,lk sl s=some v→(∃ u,tm[s]?=some u∧RepS w0 ok M v u)∧Live ⟨sl,σ.rows,bx⟩ v)
  (hb:∀ i b,lk bx i=some b→(∃ b0,lk σ.bx i=some b0)∧(∃ cs,RepB w0 ok M b.c cs∧w.heap[M.blk i]?=some (.cells cs.toArray b.ty (0,0))∧(b.c.isCh=true→M.bn i=b.c.count∧M.bw i=(E.tyOf b.ty).sz∧b.c.count≤16777216))∧Live ⟨sl,σ.rows,bx⟩ b.c):Rep E w0 ok O ⟨sl,σ.rows,bx⟩ tm w M where
 slots:=fun s v h=>(hs s v h).1
 rows:=R.rows
 boxes:=fun i b h=>(hb i b h).2.1
 rr:=R.rr
 bb:=fun i j hij ⟨b,h⟩ ⟨b',h'⟩=>R.bb i j hij (hb i b h).1 (hb j b' h').1
 rb:=fun i j hi ⟨b,h⟩=>R.rb i j hi (hb j b h).1
 ownR:=R.ownR
 ownB:=fun i ⟨b,h⟩=>R.ownB i (hb i b h).1
 okB:=R.okB
 liveS:=fun s v h=>(hs s v h).2
 liveB:=fun i b h=>(hb i b h).2.2
 kept:=R.kept
 pin:=R.pin
 pinB:=fun i hi ⟨b,h⟩=>R.pinB i hi (hb i b h).1
theorem znq_ (R:Rep E w0 ok O σ tm w M) {j:Nat} {b:Bx} (hb:lk σ.bx j=some b) (hch:b.c.isCh=true) {i:Nat} (hi:i<PIN) (hn:lk σ.rows i=none) {t:Ty} {ls:List (L t)} {cs:List Value} (hsz:t.sz=(E.tyOf b.ty).sz) (hlen:ls.length=b.c.count)
  (hcs:RepB w0 ok M b.c cs) (hw:w.heap[M.blk j]?=some (.cells cs.toArray b.ty (0,0))) (hfc:ls.flatMap (z6_ t)=cs) (hh:∀ y∈ls,holds (Rd w0 ok) w t y∧plain w t y) (hbl:ls.flatMap (z1_ t)=[]) :
  ∃ M',Rep E w0 ok O (σ.turn j i ⟨b.ty,t,ls.map (erase t),false⟩) tm w M':=by
 obtain ⟨cs2,h1,h2,h3⟩:=R.boxes j b hb
 obtain ⟨n1,n2,n3⟩:=h3 hch
 have hlc:cs.length=ls.length*t.sz:=by rw [← hfc,z11_]
 let l:L (.sl b.ty t):=(some (M.blk j),M.bn j,ls)
 have hbs:z1_ (.sl b.ty t) l=[M.blk j]:=by simp only [l,z1_,hbl,Option.toList_some,List.append_nil]
 have hholds:holds (Rd w0 ok) w (.sl b.ty t) l:=by
  refine ⟨⟨cs.toArray,(0,0),hw,?_,?_,?_,?_,.inl rfl⟩,fun y hy=>(hh y hy).1⟩
  ·simp only [l,hlen,n1]; exact Nat.le_refl _
  ·simp only [l,n1,maxLen]; omega
  ·simp only [l,n1,List.size_toArray,hlc,hlen]; exact Nat.le_refl _
  ·simp only [l]
   rw [← hlc,List.take_length,hfc]
 have hplain:plain w (.sl b.ty t) l:=by
  refine ⟨fun q hq=>?_,fun y hy=>(hh y hy).2⟩
  cases hq
  exact ⟨_,_,hw,by simp only [l,List.size_toArray,hlc,hlen,n1]⟩
 have hdropno:lk (σ.dropB j).rows i=none:=hn
 have hfree:Free w0 ok O (σ.dropB j) M (z1_ (.sl b.ty t) l):=by
  rw [hbs]
  refine ⟨by simp,fun k hk=>?_,fun i' hi' k hk hk2=>?_,fun i' hi' hk=>?_⟩
  ·simp only [List.mem_singleton] at hk; subst hk; exact R.ownB j ⟨b,hb⟩
  ·simp only [List.mem_singleton] at hk; subst hk; exact R.rb i' j hi' ⟨b,hb⟩ hk2
  ·simp only [List.mem_singleton] at hk
   have hne:=zdm_ hi'
   obtain ⟨b1,hb1⟩:=hi'
   exact R.bb i' j hne ((Sub.dropB σ j).bx i' b1 hb1) ⟨b,hb⟩ hk
 have R2:=(R.dropB j).addOwn i hi l hholds hplain hfree
 have hT:Turned M (updM M i ⟨.sl b.ty t,l⟩) j i:=⟨fun k hk=>z2u_ _ _ hk,fun k=>⟨rfl,rfl,rfl⟩,⟨b.ty,t,l,z1d_ _ _ _,rfl,rfl,by rw [n1]; exact hlen⟩⟩
 have hrows:((σ.dropB j).addRow i ⟨b.ty,t,erase (.sl b.ty t) l,false⟩).rows=(i,(⟨b.ty,t,ls.map (erase t),false⟩:Row))::σ.rows:=by
  unfold St.addRow
  simp only [hdropno]
  rfl
 have hbx:((σ.dropB j).addRow i ⟨b.ty,t,erase (.sl b.ty t) l,false⟩).bx=mapV (fun b:Bx=>(⟨b.ty,b.c.killB j⟩:Bx)) (rm σ.bx j):=by
  unfold St.addRow
  simp only [hdropno]
  rfl
 have rootsNe:∀ u,Live σ u→∀ k∈u.roots,k≠i:=fun u hu k hk e=>by
  obtain ⟨r,hr⟩:=hu.rows k hk
  rw [e,hn] at hr; cases hr
 have lkb:∀ k b',lk (mapV (fun b:Bx=>(⟨b.ty,b.c.lsRef j i⟩:Bx)) (rm σ.bx j)) k=some b'→k≠j∧∃ b0,lk σ.bx k=some b0∧b'=⟨b0.ty,b0.c.lsRef j i⟩:=by
  intro k b' h
  rw [z1a_,z2y_] at h
  obtain ⟨b0,h0,rfl⟩:=Option.map_eq_some_iff.1 h
  split at h0
  ·cases h0
  ·rename_i hne; exact ⟨fun e=>hne e.symm,b0,h0,rfl⟩
 have live:∀ u,Live σ u→Live ⟨mapV (SV.lsRef j i) σ.sl,((σ.dropB j).addRow i ⟨b.ty,t,erase (.sl b.ty t) l,false⟩).rows,mapV (fun b:Bx=>(⟨b.ty,b.c.lsRef j i⟩:Bx)) (rm σ.bx j)⟩ (u.lsRef j i):=by
  intro u hu
  obtain ⟨_,_,_,g4,g5⟩:=zdy_ j i u
  refine ⟨fun k hk=>?_,fun k hk=>?_⟩
  ·show ∃ r,lk (St.addRow _ _ _).rows k=some r
   rw [hrows,zm_]
   rcases g4 k hk with h | ⟨rfl,_⟩
   ·split
    ·exact ⟨_,rfl⟩
    ·exact hu.rows k h
   ·rw [if_pos rfl]; exact ⟨_,rfl⟩
  ·obtain ⟨h1,h2⟩:=g5 k hk
   obtain ⟨b0,h0⟩:=hu.boxes k h1
   exact ⟨_,by show lk (mapV _ (rm σ.bx j)) k=_; rw [z1a_,z2y_,if_neg (fun e=>h2 e.symm),h0]; rfl⟩
 have hst:σ.turn j i ⟨b.ty,t,ls.map (erase t),false⟩=⟨mapV (SV.lsRef j i) σ.sl,((σ.dropB j).addRow i ⟨b.ty,t,erase (.sl b.ty t) l,false⟩).rows,mapV (fun b:Bx=>(⟨b.ty,b.c.lsRef j i⟩:Bx)) (rm σ.bx j)⟩:=by
  unfold St.turn
  rw [hrows]
 rw [hst]
 refine ⟨_,R2.recontent (fun s v h=>?_) (fun k b' h=>?_)⟩
 ·rw [z1a_] at h
  obtain ⟨u,hu,rfl⟩:=Option.map_eq_some_iff.1 h
  obtain ⟨z,z1,z2⟩:=R.slots s u hu
  exact ⟨⟨z,z1,ztj_ hT (rootsNe u (R.liveS s u hu)) z2⟩,live u (R.liveS s u hu)⟩
 ·obtain ⟨hne,b0,h0,rfl⟩:=lkb k b' h
  obtain ⟨cs',q1,q2,q3⟩:=R.boxes k b0 h0
  obtain ⟨_,f2,f3,_,_⟩:=zdy_ j i b0.c
  refine ⟨⟨⟨b0.ty,b0.c.killB j⟩,by rw [hbx,z1a_,z2y_,if_neg (fun e=>hne e.symm),h0]; rfl⟩,⟨cs',zth_ hT (rootsNe b0.c (R.liveB k b0 h0)) q1,q2,fun hc=>?_⟩,live b0.c (R.liveB k b0 h0)⟩
  rw [f3] at hc
  rw [f2]
  exact q3 hc
theorem ztk_ (R:Rep E w0 ok O σ tm w M) (j:Nat):∃ M',Rep E w0 ok O (σ.prom E j) tm w M':=by
 unfold St.prom
 split
 ·rename_i b hb
  cases hk:(b.c.isCh&&(Nat.blt (z5v_ j) PIN&&(match lk σ.rows (z5v_ j) with | none=>true | some _=>false)))
  ·exact ⟨M,R⟩
  ·simp only [cond_true]
   simp only [Bool.and_eq_true] at hk
   obtain ⟨k1,k2,k3⟩:=hk
   have hn:lk σ.rows (z5v_ j)=none:=by
    split at k3
    ·assumption
    ·cases k3
   obtain ⟨cs,h1,h2,h3⟩:=R.boxes j b hb
   cases hf:(E.tyOf b.ty).flat
   ·simp only [cond_false]
    cases hc:Nat.beq b.c.count 0
    ·exact ⟨M,R⟩
    ·have hc:=Nat.eq_of_beq_eq_true hc
     have hcs:cs=[]:=by
      cases hbc:b.c with
      | nl=>rw [hbc] at h1; exact h1
      | cns x y=>rw [hbc] at hc; simp [SV.count] at hc
      | _=>rw [hbc] at k1; cases k1
     subst hcs
     simp only [cond_true]
     have fin:∀ t:Ty,t.sz=(E.tyOf b.ty).sz→∃ M',Rep E w0 ok O (σ.turn j (z5v_ j) ⟨b.ty,t,[],false⟩) tm w M':=fun t ht =>
      znq_ R hb k1 (Nat.le_of_ble_eq_true k2) hn (t:=t) (ls:=[]) ht (by simp [hc]) h1 h2 rfl (by simp) rfl
     cases E.rdm
     ·exact fin _ rfl
     ·exact fin _ (z4e_ _)
   ·simp only [cond_true]
    split
    ·rename_i xs hx
     obtain ⟨ls,g1,g2,g3⟩:=znp_ hf h1 hx
     rw [← g1]
     exact znq_ R hb k1 (Nat.le_of_ble_eq_true k2) hn rfl g3 h1 h2 g2 (fun y _=>z4m_ y hf _ w) (List.flatMap_eq_nil_iff.2 fun y _=>z8z_ y hf)
    ·exact ⟨M,R⟩
 ·exact ⟨M,R⟩
theorem znr_ (R:Rep E w0 ok O σ tm w M):∃ M',Rep E w0 ok O (σ.promAll E) tm w M':=by
 unfold St.promAll
 generalize σ.bx.filterMap (fun x=>bif x.2.c.isCh then some x.1 else none)=l
 induction l generalizing σ M with
 | nil=>exact ⟨M,R⟩
 | cons j l ih =>
  obtain ⟨M1,R1⟩:=ztk_ R j
  exact ih R1
end
end Go.Proofs.YtioaaljaohhjiaaGreatDoor.Ev

namespace Go.Proofs.YtioaaljaohhjiaaGreatDoor.Ev
open Go.RowKit

theorem zdz_:∀ (n:Nat) (l:List Nat),l.Nodup→(∀ x∈l,x<n)→l.length≤n
 | 0,l,_,h=>by
  cases l with
  | nil=>exact Nat.le_refl _
  | cons a l=>exact absurd (h a (by simp)) (Nat.not_lt_zero _)
 | n+1,l,hn,h=>by
  have h1:=zdz_ n (l.erase n) (hn.erase n) (fun x hx=>by
   have:=(hn.mem_erase_iff).1 hx
   have h2:=h x this.2
   have:=this.1
   omega)
  by_cases hm:n∈l
  ·rw [List.length_erase_of_mem hm] at h1; omega
  ·rw [List.erase_of_not_mem hm] at h1; omega
theorem ziz_:∀ {l:List Nat},l.Nodup→∀ {i j:Nat} (hi:i<l.length) (hj:j<l.length),l[i]=l[j]→i=j
 | [],_,i,j,hi,_,_=>by simp at hi
 | a::l,hn,0,0,_,_,_=>rfl
 | a::l,hn,0,j+1,hi,hj,h=>by
  have h1:=(List.nodup_cons.1 hn).1
  simp only [List.getElem_cons_zero,List.getElem_cons_succ] at h
  exact absurd (h▸List.getElem_mem _) h1
 | a::l,hn,i+1,0,hi,hj,h=>by
  have h1:=(List.nodup_cons.1 hn).1
  simp only [List.getElem_cons_zero,List.getElem_cons_succ] at h
  exact absurd (h▸List.getElem_mem _) h1
 | a::l,hn,i+1,j+1,hi,hj,h=>by
  have h2:=(List.nodup_cons.1 hn).2
  simp only [List.getElem_cons_succ] at h
  rw [ziz_ h2 (by simpa using hi) (by simpa using hj) h]
theorem ztl_ {D:Nat→Prop}:∀ t,¬ D t→∃ s,s≤t∧¬ D s∧∀ u,u<s→D u:=by
 intro t
 induction t using Nat.strongRecOn with
 | _ t ih =>
  intro ht
  by_cases h:∀ u,u<t→D u
  ·exact ⟨t,Nat.le_refl _,ht,h⟩
  ·have:∃ u,u<t∧¬ D u:=Classical.byContradiction fun hne=>h fun u hu=>Classical.byContradiction fun hd=>hne ⟨u,hu,hd⟩
   obtain ⟨u,hu,hd⟩:=this
   obtain ⟨s,h1,h2,h3⟩:=ih u hu hd
   exact ⟨s,by omega,h2,h3⟩

theorem zby_ {all:List Oper} {L:Array Bool} {i:Nat}:i∈Region.ready .any all.toArray L↔i<all.length∧L.getD i true=false∧∀ o,all[i]?=some o→∀ e∈o.after.toList,Region.binds .any e=true→L.getD e.on false=true:=by
 unfold Region.ready
 rw [List.mem_filter,List.mem_range]
 simp only [List.size_toArray,Bool.and_eq_true,Bool.not_eq_true']
 refine and_congr_right fun hi=>and_congr_right fun _=>?_
 have ho:all.toArray[i]?=some all[i]:=by simp [hi]
 rw [ho]
 simp only [Option.map_some,Option.getD_some]
 constructor
 ·intro h o ho' e he hb
  rw [List.getElem?_eq_getElem hi] at ho'
  cases ho'
  have:=Array.all_eq_true_iff_forall_mem.1 h e (Array.mem_toList_iff.1 he)
  rw [hb] at this
  simpa using this
 ·intro h
  refine Array.all_eq_true_iff_forall_mem.2 fun e he=>?_
  cases hb:Region.binds .any e with
  | false=>rfl
  | true =>
   have:=h all[i] (List.getElem?_eq_getElem hi) e (Array.mem_toList_iff.2 he) hb
   rw [this]; rfl
theorem zbz_ {L:Array Bool} {i:Nat} (h:i<L.size):L.getD i true=L.getD i false:=by
 simp [Array.getD_eq_getD_getElem?,h]
theorem zns_ {L:Array Bool} {i t:Nat} (h:i<L.size):(L.setIfInBounds i true).getD t false=true↔t=i∨L.getD t false=true:=by
 simp only [Array.getD_eq_getD_getElem?]
 by_cases hti:i=t
 ·subst hti; simp [h]
 ·rw [Array.getElem?_setIfInBounds_ne hti]
  constructor
  ·exact fun h=>.inr h
  ·rintro (h | h)
   ·exact absurd h.symm hti
   ·exact h

section
variable {P : Program} {E : Env} {w0 : World} {ok O : Nat → Prop} {σ σ' : St} {tm : Array Value} {w w' : World} {M : Map} {a : Act}

theorem znt_ [Glob P] {R0:Type} {res:R0} (T:zi_ P E.ti=true) (EQ:EqOK P E) {all:List Oper} {m n:Nat} (hE:z5t_ 0 all=true) (hT:∀ j,m≤j→j<all.length→z5u_ j ((zz_ all []).getD j 0)=true)
  (hB:∀ o∈all,∀ d,o.dst=some d→d<n) {k:St→Option R0} {Q:Exit→Act→World→Prop} :
  ∀ (fuel:Nat) {w0:World} {ok O:Nat→Prop},SpecOK P E w0 O→z27_ P E w0 O→Then E w0 ok O res n k (Q .normal)→∀ (i:Nat) (L:Array Bool) (σ:St) (a:Act) (w:World) (M:Map),L.size=all.length→(∀ t,L.getD t false=true↔t<i)→m≤i→i≤all.length→all.length≤fuel+i→opsC E all i (all.drop i) σ k=some res →
   Rep E w0 ok O σ a.tmps w M→a.tmps.size=n→a.defers=[]→wpAny P .any all.toArray Q fuel L a w:=by
 have hdone:∀ (i:Nat) (L:Array Bool),L.size=all.length→(∀ t,L.getD t false=true↔t<i)→i=all.length→Region.ready .any all.toArray L=[]:=by
  intro i L hs hL hi
  refine List.eq_nil_iff_forall_not_mem.2 fun j hj=>?_
  obtain ⟨h1,h2,_⟩:=zby_.1 hj
  rw [zbz_ (by omega)] at h2
  have:=(hL j).2 (by omega)
  rw [this] at h2; cases h2
 intro fuel
 induction fuel with
 | zero =>
  intro w0 ok O S K hQ i L σ a w M hs hL hm hi hf h R hn hd
  have he:i=all.length:=by omega
  subst he
  rw [List.drop_length] at h
  exact ⟨hdone _ L hs hL rfl,hQ.at σ a w M h R hn hd⟩
 | succ fuel ih =>
  intro w0 ok O S K hQ i L σ a w M hs hL hm hi hf h R hn hd
  rcases Nat.lt_or_ge i all.length with hlt | hge
  ·have hcl:ziy_ all (fun t=>t<i):=fun j o hj ho e he hb=>by
    have:=zbx_ hE j o ho e he hb
    omega
   have hmem:i∈Region.ready .any all.toArray L:=zby_.2 ⟨hlt,by
    rw [zbz_ (by omega)]
    cases hq:L.getD i false with
    | false=>rfl
    | true=>have:=(hL i).1 hq; omega,fun o ho e he hb=>(hL _).2 (by have:=zbx_ hE i o ho e he hb; omega)⟩
   refine ⟨fun h0=>absurd hmem (by rw [h0]; simp),fun i' hi'=>?_⟩
   obtain ⟨r1,r2,r3⟩:=zby_.1 hi'
   rw [zbz_ (by omega)] at r2
   have hge':i≤i':=by
    rcases Nat.lt_or_ge i' i with h | h
    ·rw [(hL i').2 h] at r2; cases r2
    ·exact h
   have:i'=i:=by
    rcases Nat.lt_or_ge i i' with h | h
    ·exfalso
     have:=znn_ hE hcl i' all[i'] (List.getElem?_eq_getElem r1) (fun e he hb=>(hL _).1 (r3 _ (List.getElem?_eq_getElem r1) e he hb)) i (znm_ (hT i' (by omega) r1) h)
     exact Nat.lt_irrefl _ this
    ·omega
   subst this
   have hdrop:all.drop i'=all[i']::all.drop (i'+1):=List.drop_eq_getElem_cons hlt
   rw [hdrop] at h
   have hia:all.toArray[i']?=some all[i']:=by simp [hlt]
   have hin:inB all[i'].dst a.tmps:=fun d hd=>by rw [hn]; exact hB _ (List.getElem_mem hlt) d hd
   have hL':∀ t,(L.setIfInBounds i' true).getD t false=true↔t<i'+1:=fun t=>by
    rw [zns_ (by omega),hL t]; omega
   unfold wpOp
   rw [hia]
   simp only []
   simp only [opsC] at h
   rcases zdu_ R h with ⟨hw,h⟩ | ⟨hw,h⟩
   ·rw [if_pos hw]
    refine .inl (zni_ R T EQ S K hin hd h ?_)
    intro w2 ok2 O2 hc σ1 a1 w1 M1 h1 R1 hn1 hd1
    obtain ⟨σ2,h2,R2⟩:=znk_ R1 h1
    exact ih (S.chg hc) (K.chg hc) (hQ.chg hc) (i'+1) _ σ2 a1 w1 M1 (by simpa using hs) hL' (by omega) (by omega) (by omega) h2 R2 (by rw [hn1,hn]) hd1
   ·rw [if_neg (by rw [hw]; simp)]
    refine ih S K hQ (i'+1) _ _ _ w M (by simpa using hs) hL' (by omega) (by omega) (by omega) h ?_ (by rw [z1p_,z3z_,hn]) (by rw [z3y_]; exact hd)
    rw [z1p_]
    exact R.putSkip hin
  ·have he:i=all.length:=by omega
   subst he
   rw [List.drop_length] at h
   have h0:=hdone _ L hs hL rfl
   exact ⟨fun _=>hQ.at σ a w M h R hn hd,fun i' hi'=>by rw [h0] at hi'; cases hi'⟩

theorem ztm_ [Glob P] {R0:Type} {res:R0} (T:zi_ P E.ti=true) (EQ:EqOK P E) (S:SpecOK P E w0 O) (K:z27_ P E w0 O) {all:List Oper} {m n:Nat} {base σ':St} {outs:List Out} (F:FreeP E all m base outs) (hc:Chars base all outs m σ')
  (hT:∀ j,m≤j→j<all.length→z5u_ j ((zz_ all []).getD j 0)=true) (hB:∀ o∈all,∀ d,o.dst=some d→d<n) {k:St→Option R0} {Q:Exit→Act→World→Prop} (hQ:Then E w0 ok O res n k (Q .normal))
  (hk:opsC E all m (all.drop m) (σ'.promAll E) k=some res) :
  ∀ (fuel:Nat) (ds:List Nat) (L:Array Bool) (σD:St) (a:Act) (w:World) (M:Map),L.size=all.length→(∀ t,L.getD t false=true↔t∈ds)→ds.Nodup→(∀ t∈ds,t<m)→all.length≤fuel+ds.length→ziy_ all (·∈ds)→Done base all outs (·∈ds) σD →
   Rep E w0 ok O σD a.tmps w M→a.tmps.size=n→a.defers=[]→wpAny P .any all.toArray Q fuel L a w:=by
 intro fuel
 induction fuel with
 | zero =>
  intro ds L σD a w M hs hL hnd hdm hf hcl hD R hn hd
  by_cases hall:∀ t,t<m→t∈ds
  ·have hiff:∀ t,L.getD t false=true↔t<m:=fun t=>(hL t).trans ⟨hdm t,hall t⟩
   obtain ⟨M2,R2⟩:=znr_ (final_rep F hc hD hall R)
   exact znt_ T EQ F.edges hT hB 0 S K hQ m L _ a w M2 hs hiff (Nat.le_refl _) F.le (by
    have:=zdz_ m ds hnd hdm
    omega) hk R2 hn hd
  ·exfalso
   have:∃ t,t<m∧t∉ds:=Classical.byContradiction fun hne=>hall fun t ht=>Classical.byContradiction fun h=>hne ⟨t,ht,h⟩
   obtain ⟨t,ht,hn'⟩:=this
   have:=zdz_ m (t::ds) (List.nodup_cons.2 ⟨hn',hnd⟩) (fun x hx=>by rcases List.mem_cons.1 hx with rfl | hx; exact ht; exact hdm x hx)
   have:=F.le
   simp only [List.length_cons] at *
   omega
 | succ fuel ih =>
  intro ds L σD a w M hs hL hnd hdm hf hcl hD R hn hd
  by_cases hall:∀ t,t<m→t∈ds
  ·have hiff:∀ t,L.getD t false=true↔t<m:=fun t=>(hL t).trans ⟨hdm t,hall t⟩
   obtain ⟨M2,R2⟩:=znr_ (final_rep F hc hD hall R)
   exact znt_ T EQ F.edges hT hB (fuel+1) S K hQ m L _ a w M2 hs hiff (Nat.le_refl _) F.le (by
    have:=zdz_ m ds hnd hdm
    omega) hk R2 hn hd
  ·have:∃ t,t<m∧t∉ds:=Classical.byContradiction fun hne=>hall fun t ht=>Classical.byContradiction fun h=>hne ⟨t,ht,h⟩
   obtain ⟨t,ht,hnt⟩:=this
   obtain ⟨s,s1,s2,s3⟩:=ztl_ (D:=(·∈ds)) t hnt
   have hsm:s<m:=by omega
   have hsl:s<all.length:=Nat.lt_of_lt_of_le hsm F.le
   have hmem:s∈Region.ready .any all.toArray L:=zby_.2 ⟨hsl,by
    rw [zbz_ (by omega)]
    cases hq:L.getD s false with
    | false=>rfl
    | true=>exact absurd ((hL s).1 hq) s2,fun o ho e he hb=>(hL _).2 (s3 _ (by have:=zbx_ F.edges s o ho e he hb; omega))⟩
   refine ⟨fun h0=>absurd hmem (by rw [h0]; simp),fun i hi=>?_⟩
   obtain ⟨r1,r2,r3⟩:=zby_.1 hi
   rw [zbz_ (by omega)] at r2
   have hni:i∉ds:=fun h=>by rw [(hL i).2 h] at r2; cases r2
   have hp:=znn_ F.edges hcl i all[i] (List.getElem?_eq_getElem r1) (fun e he hb=>(hL _).1 (r3 _ (List.getElem?_eq_getElem r1) e he hb))
   rcases Nat.lt_or_ge i m with him | him
   ·refine ztg_ T EQ S F hD hdm him hni hp hB R hn hd fun σ1 a1 w1 M1 hD1 R1 hn1 hd1=>?_
    have hD2:Done base all outs (·∈i::ds) σ1:=by
     have e:(fun t=>t=i∨t∈ds)=(·∈i::ds):=by funext t; simp
     rw [← e]; exact hD1
    refine ih (i::ds) _ σ1 a1 w1 M1 (by simpa using hs) (fun t=>?_) (List.nodup_cons.2 ⟨hni,hnd⟩) (fun x hx=>?_) (by simp only [List.length_cons]; omega) ?_ hD2 R1 hn1 hd1
    ·rw [zns_ (by omega),hL t]; simp
    ·rcases List.mem_cons.1 hx with rfl | hx
     ·exact him
     ·exact hdm x hx
    ·intro j o hj ho e he hb
     rcases List.mem_cons.1 hj with rfl | hj
     ·exact List.mem_cons_of_mem _ ((hL _).1 (r3 o ho e he hb))
     ·exact List.mem_cons_of_mem _ (hcl j o hj ho e he hb)
   ·exact absurd (hp t (znm_ (hT i him r1) (by omega))) hnt
where
 final_rep {all:List Oper} {m:Nat} {base σ' σD:St} {outs:List Out} {ds:List Nat} {a:Act} {w:World} {M:Map} (F:FreeP E all m base outs) (hc:Chars base all outs m σ') (hD:Done base all outs (·∈ds) σD) (hall:∀ t,t<m→t∈ds) (R:Rep E w0 ok O σD a.tmps w M):Rep E w0 ok O σ' a.tmps w M:=by
  have hle:Le σ' σD:=by
   constructor
   ·intro s v h
    rcases hc.sl s v h with h | ⟨t,o,x,ht,ho,hx,hd,rfl⟩
    ·exact hD.sl s v h
    ·exact hD.out t o x s (hall t ht) ho hx hd
   ·intro s v h
    rcases hc.rows s v h with h | ⟨t,x,ht,hx,h⟩
    ·exact hD.rows s v h
    ·exact hD.rowsO t x s v (hall t ht) hx h
   ·intro s v h
    rcases hc.bx s v h with h | ⟨t,x,ht,hx,h⟩
    ·exact hD.bx s v h
    ·exact hD.bxO t x s v (hall t ht) hx h
  have live:∀ u,Live σD u→Live σ' u:=fun u hu=>⟨fun i hi=>by
   obtain ⟨r,hr⟩:=hu.rows i hi
   rcases hD.rowsB i r hr with h | ⟨j,x,r',hj,hx,h⟩
   ·exact hc.rows' i ⟨r,h⟩
   ·have hjm:j<m:=by
     have:=(List.getElem?_eq_some_iff.1 hx).1
     rw [F.len] at this; exact this
    exact hc.rowsO j x i hjm hx ⟨r',h⟩,fun i hi=>by
   obtain ⟨r,hr⟩:=hu.boxes i hi
   rcases hD.bxB i r hr with h | ⟨j,x,r',hj,hx,h⟩
   ·exact hc.bx' i ⟨r,h⟩
   ·have hjm:j<m:=by
     have:=(List.getElem?_eq_some_iff.1 hx).1
     rw [F.len] at this; exact this
    exact hc.bxO j x i hjm hx ⟨r',h⟩⟩
  exact R.le hle (fun s v h=>live v (R.liveS s v (hle.sl s v h))) (fun i b h=>live b.c (R.liveB i b (hle.bx i b h)))

theorem znu_:∀ {l:List Oper} {ds:List Nat},zd4_ l=some ds→ds.length=l.length∧∀ (j:Nat) (o:Oper),l[j]?=some o→∃ d,o.dst=some d∧ds[j]?=some d
 | [],ds,h=>by cases h; exact ⟨rfl,fun j o hj=>by simp at hj⟩
 | o::l,ds,h=>by
  simp only [zd4_] at h
  split at h
  ·rename_i d ds' h1 h2
   cases h
   obtain ⟨e1,e2⟩:=znu_ h2
   refine ⟨by simp [e1],fun j o' hj=>?_⟩
   cases j with
   | zero=>simp at hj; subst hj; exact ⟨d,h1,rfl⟩
   | succ j=>simp only [List.getElem?_cons_succ] at hj ⊢; exact e2 j o' hj
  ·cases h

theorem ztn_ [Glob P] {R0:Type} {res:R0} (T:zi_ P E.ti=true) (EQ:EqOK P E) (S:SpecOK P E w0 O) (K:z27_ P E w0 O) (hmix:P.follows .mixedOrders=true) {all:List Oper} {n id:Nat} (hB:∀ o∈all,∀ d,o.dst=some d→d<n) {k:St→Option R0} {Q:Exit→Act→World→Prop} (hQ:Then E w0 ok O res n k (Q .normal))
  {σ:St} {a:Act} {w:World} {M:Map} (h:regC E all σ k=some res) (R:Rep E w0 ok O σ a.tmps w M) (hn:a.tmps.size=n) (hd:a.defers=[]):(Code.region id all.toArray true).wp P Q a w:=by
 unfold regC at h
 simp only [] at h
 split at h
 ·rename_i ds hds
  cases hb:(z2q_ ds&&z5t_ 0 all) <;> rw [hb] at h
  ·cases h
  ·simp only [Bool.and_eq_true] at hb
   have hnd:=zlz_ hb.1
   simp only [cond_true] at h
   obtain ⟨outs,σ',g1,g2,g3,g4⟩:=ziv_ _ _ _ _ h
   obtain ⟨t1,t2⟩:=zta_ g1
   obtain ⟨d1,d2⟩:=znu_ hds
   obtain ⟨pr,pr1,pr2⟩:=ziw_ all []
   have hlen:(zz_ all []).length=all.length:=by rw [pr1]; simp [pr2]
   have hfl:∀ (ps:List Nat) (i:Nat),z38_ ps i≤ps.length:=by
    intro ps
    induction ps with
    | nil=>intro i; exact Nat.le_refl _
    | cons p ps ih =>
     intro i
     simp only [z38_]
     have:=ih (i+1)
     split
     ·cases z5u_ i p <;> simp
     ·rename_i n hn; rw [hn] at this; simp; omega
   have hmle:z38_ (zz_ all []) 0≤all.length:=by rw [← hlen]; exact hfl _ _
   have hplen:((zz_ all []).take (z38_ (zz_ all []) 0)).length=z38_ (zz_ all []) 0:=by rw [List.length_take,hlen]; omega
   rw [hplen] at g2 g3 g4
   rw [Nat.zero_add] at g4
   have hdtake:ds.length=z38_ (zz_ all []) 0:=by rw [d1,List.length_take]; omega
   have F:FreeP E all (z38_ (zz_ all []) 0) (σ.hideS ds) outs:=by
    refine ⟨g2,hmle,hb.2,fun j o hj ho=>?_,fun i j o o' d hi hj ho ho' hd hd'=>?_,fun j hj=>?_⟩
    ·obtain ⟨d,e1,e2⟩:=d2 j o (by rw [List.getElem?_take_of_lt hj]; exact ho)
     refine ⟨d,e1,?_⟩
     show lk (σ.sl.filter (fun x=>!(ds.any (Nat.beq x.1)))) d=none
     rw [z7b_ (fun n=>!(ds.any (Nat.beq n))),if_neg (fun hh=>zdx_.1 hh (List.mem_of_getElem? e2))]
    ·obtain ⟨d3,e1,e2⟩:=d2 i o (by rw [List.getElem?_take_of_lt hi]; exact ho)
     obtain ⟨d4,e3,e4⟩:=d2 j o' (by rw [List.getElem?_take_of_lt hj]; exact ho')
     rw [hd] at e1; rw [hd'] at e3
     cases e1; cases e3
     have hi':i<ds.length:=by omega
     have hj':j<ds.length:=by omega
     have:=(List.getElem?_eq_some_iff.1 e2).2.trans (List.getElem?_eq_some_iff.1 e4).2.symm
     exact ziz_ hnd hi' hj' this
    ·obtain ⟨σj,o,x,p,h1,h2,h3,h4,h5⟩:=t1 j (by rw [g2]; exact hj)
     rw [Nat.zero_add] at h4
     have:(zz_ all []).getD j 0=p:=by
      rw [List.getElem?_take_of_lt hj] at h3
      rw [List.getD_eq_getElem?_getD,h3]; rfl
     rw [this]
     exact ⟨σj,o,x,h1,h2,h4,h5⟩
   have hT:∀ j,z38_ (zz_ all []) 0≤j→j<all.length→z5u_ j ((zz_ all []).getD j 0)=true:=by
    intro j hj hlt
    have hget:(zz_ all [])[j]?=some (zz_ all [])[j]:=List.getElem?_eq_getElem (by omega)
    have:=zix_ (zz_ all []) 0 j _ hj hget
    rw [Nat.zero_add] at this
    rw [List.getD_eq_getElem?_getD,hget]; exact this
   have R1:Rep E w0 ok O (σ.hideS ds) a.tmps { w with drawn:=w.drawn+1 } M:=by
    refine Rep.world (w:=w) ?_ rfl rfl rfl rfl
    refine R.fewer (sl:=σ.sl.filter (fun x=>!(ds.any (Nat.beq x.1)))) fun s v h=>?_
    rw [z7b_ (fun n=>!(ds.any (Nat.beq n)))] at h
    split at h
    ·exact h
    ·cases h
   rw [g2] at t2
   refine wp_region_any hmix ?_
   have hD0:Done (σ.hideS ds) all outs (·∈([]:List Nat)) (σ.hideS ds) :=
    ⟨fun _ _ h=>h,fun j o x d hj=>absurd hj (by simp),fun _ _ h=>h,fun j x i r hj=>absurd hj (by simp),fun _ _ h=>h,fun j x i r hj=>absurd hj (by simp),fun _ _ h=>.inl h,fun _ _ h=>.inl h⟩
   exact ztm_ T EQ S K F t2 hT hB hQ g4 all.toArray.size [] (Array.replicate all.toArray.size false) (σ.hideS ds) a _ M (by simp) (fun t=>by
    simp only [Array.getD_eq_getD_getElem?,Array.getElem?_replicate]
    split <;> simp) List.nodup_nil (by simp) (by simp) (fun j o hj=>by cases hj) hD0 R1 hn hd
 ·cases h
end
end Go.Proofs.YtioaaljaohhjiaaGreatDoor.Ev

namespace Go.Proofs.YtioaaljaohhjiaaGreatDoor.Ev
open Go.RowKit

theorem ze0_:∀ (l:List Nat) (i n:Nat),i∈l→∃ k,zb6_ i l n=n+k∧l[k]?=some i
 | [],i,n,h=>by cases h
 | j::l,i,n,h=>by
  simp only [zb6_,nbeq]
  by_cases hij:i=j
  ·subst hij; exact ⟨0,by simp,rfl⟩
  ·simp only [hij,decide_false,cond_false]
   obtain ⟨k,h1,h2⟩:=ze0_ l i (n+1) ((List.mem_cons.1 h).resolve_left hij)
   exact ⟨k+1,by rw [h1]; omega,h2⟩
theorem ze1_:∀ (l acc:List Nat) (i:Nat),i∈l∨i∈acc→i∈z36_ l acc
 | [],acc,i,h=>by simp [z36_]; simpa using h
 | j::l,acc,i,h=>by
  simp only [z36_]
  cases hb:acc.any (Nat.beq j)
  ·simp only [cond_false]
   refine ze1_ l _ i ?_
   rcases h with h | h
   ·rcases List.mem_cons.1 h with rfl | h
    ·exact .inr (by simp)
    ·exact .inl h
   ·exact .inr (by simp [h])
  ·simp only [cond_true]
   refine ze1_ l _ i ?_
   rcases h with h | h
   ·rcases List.mem_cons.1 h with rfl | h
    ·obtain ⟨x,hx,hb⟩:=List.any_eq_true.1 hb
     rw [Nat.eq_of_beq_eq_true hb]; exact .inr hx
    ·exact .inl h
   ·exact .inr h
theorem zto_ {ids:List Nat} (hl:ids.length<1000) {i j:Nat} (hi:i∈ids) (hj:j∈ids) (h:z2h_ ids i=z2h_ ids j):i=j:=by
 have key:∀ i,i∈ids→i<PIN→z2h_ ids i<PIN∧∃ k,z2h_ ids i=NB+k∧ids[k]?=some i:=by
  intro i hi hp
  obtain ⟨k,h1,h2⟩:=ze0_ ids i 0 hi
  have hb:Nat.blt i PIN=true:=Nat.ble_eq_true_of_le hp
  have e:z2h_ ids i=NB+k:=by simp only [z2h_,hb,cond_true,h1,Nat.zero_add]
  have hk:=(List.getElem?_eq_some_iff.1 h2).1
  refine ⟨?_,k,e,h2⟩
  rw [e]; simp only [NB,PIN]; omega
 have big:∀ i,¬ i<PIN→z2h_ ids i=i:=by
  intro i hp
  have hb:Nat.blt i PIN=false:=by
   cases hq:Nat.blt i PIN with
   | false=>rfl
   | true=>exact absurd (Nat.le_of_ble_eq_true hq) hp
  simp only [z2h_,hb,cond_false]
 by_cases h1:i<PIN <;> by_cases h2:j<PIN
 ·obtain ⟨_,k,e1,e2⟩:=key i hi h1
  obtain ⟨_,k',e3,e4⟩:=key j hj h2
  have:k=k':=by omega
  subst this
  rw [e2] at e4
  exact Option.some.inj e4
 ·have:=(key i hi h1).1
  rw [h,big j h2] at this; omega
 ·have:=(key j hj h2).1
  rw [← h,big i h1] at this; omega
 ·rw [big i h1,big j h2] at h; exact h
theorem ztp_ {ids:List Nat} (hl:ids.length<1000) {i:Nat} (hi:i∈ids) (h:PIN≤z2h_ ids i):z2h_ ids i=i:=by
 by_cases h1:i<PIN
 ·exfalso
  obtain ⟨k,h2,h3⟩:=ze0_ ids i 0 hi
  have hb:Nat.blt i PIN=true:=Nat.ble_eq_true_of_le h1
  have e:z2h_ ids i=NB+k:=by simp only [z2h_,hb,cond_true,h2,Nat.zero_add]
  have hk:=(List.getElem?_eq_some_iff.1 h3).1
  rw [e] at h
  simp only [NB,PIN] at h
  omega
 ·have hb:Nat.blt i PIN=false:=by
   cases hq:Nat.blt i PIN with
   | false=>rfl
   | true=>exact absurd (Nat.le_of_ble_eq_true hq) h1
  simp only [z2h_,hb,cond_false]

theorem z90_ (f:Nat→Nat) (s:SV):(s.ren f).roots=s.roots.map f∧(s.ren f).boxes=s.boxes∧(s.ren f).isSt=s.isSt∧(s.ren f).count=s.count∧(s.ren f).isCh=s.isCh:=by
 induction s with
 | st s ih=>exact ⟨ih.1,ih.2.1,rfl,rfl,rfl⟩
 | pr a b iha ihb=>exact ⟨by simp [SV.ren,SV.roots,iha.1,ihb.1],by simp [SV.ren,SV.boxes,iha.2.1,ihb.2.1],rfl,rfl,rfl⟩
 | clo g s ih=>exact ⟨ih.1,ih.2.1,rfl,rfl,rfl⟩
 | tup s ih=>exact ⟨ih.1,ih.2.1,rfl,rfl,rfl⟩
 | cns a b iha ihb=>exact ⟨by simp [SV.ren,SV.roots,iha.1,ihb.1],by simp [SV.ren,SV.boxes,iha.2.1,ihb.2.1],rfl,by simp [SV.ren,SV.count,ihb.2.2.2.1],rfl⟩
 | val t x=>cases t <;> exact ⟨rfl,rfl,rfl,rfl,rfl⟩
 | _=>exact ⟨rfl,rfl,rfl,rfl,rfl⟩

section
variable {P : Program} {E : Env} {w0 : World} {ok O : Nat → Prop} {σ σ' : St} {tm : Array Value} {w w' : World} {M M' : Map} {a : Act}

structure Renm (M M':Map) (f:Nat→Nat) (ids:List Nat):Prop where
 loc:∀ i∈ids,M'.loc (f i)=M.loc i
 blk:M'.blk=M.blk
 bn:M'.bn=M.bn
 bw:M'.bw=M.bw
theorem z2b_ {f:Nat→Nat} {ids:List Nat} (H:Renm M M' f ids):∀ {s:SV} {cs:List Value},(∀ i∈s.roots,i∈ids)→RepV w0 ok M s cs→RepV w0 ok M' (s.ren f) cs
 | .val t x,cs,h,hs=>by cases t <;> exact hs
 | .ref i p,cs,h,hs=>by
  have e:=H.loc i (h i (by simp [SV.roots]))
  simp only [SV.ren,RepV] at hs ⊢
  rw [e]; exact hs
 | .vw i lo n,cs,h,hs=>by
  have e:=H.loc i (h i (by simp [SV.roots]))
  simp only [SV.ren,RepV] at hs ⊢
  rw [e]; exact hs
 | .ls i,cs,h,hs=>by simp only [SV.ren,RepV,H.blk,H.bn] at hs ⊢; exact hs
 | .st s,cs,h,hs=>z2b_ H (s:=s) h hs
 | .pr a b,cs,h,hs=>by
  obtain ⟨c1,c2,rfl,h1,h2⟩:=hs
  exact ⟨c1,c2,rfl,z2b_ H (fun i hi=>h i (by simp [SV.roots,hi])) h1,z2b_ H (fun i hi=>h i (by simp [SV.roots,hi])) h2⟩
 | .bp i p o,cs,h,hs=>by simp only [SV.ren,RepV,H.blk] at hs ⊢; exact hs
 | .ep i p n f' o,cs,h,hs=>by
  have e:=H.loc i (h i (by simp [SV.roots]))
  simp only [SV.ren,RepV] at hs ⊢
  rw [e]; exact hs
 | .lp i n,cs,h,hs=>by simp only [SV.ren,RepV,H.blk,H.bn,H.bw] at hs ⊢; exact hs
 | .clo g c,cs,h,hs=>by
  obtain ⟨caps,rfl,h1⟩:=hs
  exact ⟨caps,rfl,z2b_ H (s:=c) h h1⟩
 | .no,cs,h,hs=>hs
 | .un,cs,h,hs=>hs
 | .tup _,_,_,h=>h.elim
 | .cns _ _,_,_,h=>h.elim
 | .nl,_,_,h=>h.elim
theorem ztq_ {f:Nat→Nat} {ids:List Nat} (H:Renm M M' f ids) {s:SV}:∀ {cs:List Value},(∀ i∈s.roots,i∈ids)→RepB w0 ok M s cs→RepB w0 ok M' (s.ren f) cs:=by
 induction s with
 | cns a b iha ihb =>
  intro cs h hs
  obtain ⟨c1,c2,rfl,h1,h2⟩:=hs
  exact ⟨c1,c2,rfl,z2b_ H (fun i hi=>h i (by simp [SV.roots,hi])) h1,ihb (fun i hi=>h i (by simp [SV.roots,hi])) h2⟩
 | nl=>intro cs h hs; exact hs
 | val t x=>intro cs h hs; exact zn_ (z2b_ H h hs)
 | ref i p=>intro cs h hs; exact zn_ (z2b_ H h hs)
 | vw i lo n=>intro cs h hs; exact zn_ (z2b_ H h hs)
 | ls i=>intro cs h hs; exact zn_ (z2b_ H h hs)
 | st s _=>intro cs h hs; exact zn_ (z2b_ H (s:=.st s) h hs)
 | pr a b _ _=>intro cs h hs; exact zn_ (z2b_ H (s:=.pr a b) h hs)
 | bp i p o=>intro cs h hs; exact zn_ (z2b_ H h hs)
 | ep i p n f o=>intro cs h hs; exact zn_ (z2b_ H h hs)
 | lp i n=>intro cs h hs; exact zn_ (z2b_ H h hs)
 | clo g s _=>intro cs h hs; exact zn_ (z2b_ H (s:=.clo g s) h hs)
 | no=>intro cs h hs; exact hs
 | un=>intro cs h hs; exact hs
 | tup s _=>intro cs h hs; exact hs.elim
theorem ztr_ {f:Nat→Nat} {ids:List Nat} (H:Renm M M' f ids) {s:SV}:∀ {vs:List Value},(∀ i∈s.roots,i∈ids)→RepT w0 ok M s vs→RepT w0 ok M' (s.ren f) vs:=by
 induction s with
 | cns a b iha ihb =>
  intro vs h hs
  obtain ⟨v,vs',rfl,⟨cs,h1,h3⟩,h2⟩:=hs
  exact ⟨v,vs',rfl,⟨cs,z2b_ H (fun i hi=>h i (by simp [SV.roots,hi])) h1,by rw [(z90_ f a).2.2.1]; exact h3⟩,ihb (fun i hi=>h i (by simp [SV.roots,hi])) h2⟩
 | nl=>intro vs h hs; exact hs
 | _=>intro vs h hs; exact hs.elim
theorem zts_ {f:Nat→Nat} {ids:List Nat} (H:Renm M M' f ids) {s:SV} {v:Value} (h:∀ i∈s.roots,i∈ids) (hs:RepS w0 ok M s v):RepS w0 ok M' (s.ren f) v:=by
 rcases z1w_ hs with rfl | ⟨c,vs,rfl,rfl,h1⟩ | ⟨cs,h1,h2⟩
 ·trivial
 ·exact ⟨vs,rfl,ztr_ H h h1⟩
 ·exact z14_ (z2b_ H h h1) (by unfold z1o_; rw [(z90_ f s).2.2.1]; exact h2)

theorem ze2_ {rows:List (Nat×Row)} {f:Nat→Nat}:∀ {l:List Nat} {j:Nat} {r:Row},lk (z4c_ rows f l) j=some r→∃ i∈l,f i=j∧lk rows i=some r
 | [],j,r,h=>by cases h
 | i::l,j,r,h=>by
  simp only [z4c_] at h
  split at h
  ·rename_i r' hr
   rw [zm_] at h
   split at h
   ·rename_i e; cases h; exact ⟨i,by simp,e,hr⟩
   ·obtain ⟨i',h1,h2⟩:=ze2_ h; exact ⟨i',by simp [h1],h2⟩
  ·obtain ⟨i',h1,h2⟩:=ze2_ h; exact ⟨i',by simp [h1],h2⟩
theorem znv_ {rows:List (Nat×Row)} {f:Nat→Nat}:∀ {l:List Nat} {i:Nat} {r:Row},i∈l→lk rows i=some r→∃ r',lk (z4c_ rows f l) (f i)=some r'
 | [],i,r,h,_=>by cases h
 | j::l,i,r,h,hr=>by
  simp only [z4c_]
  by_cases hij:i=j
  ·subst hij; rw [hr]; exact ⟨r,z3c_ _ _ _⟩
  ·obtain ⟨r',hr'⟩:=znv_ (f:=f) ((List.mem_cons.1 h).resolve_left hij) hr
   split
   ·rw [zm_]; split; exact ⟨_,rfl⟩; exact ⟨r',hr'⟩
   ·exact ⟨r',hr'⟩

theorem Rep.ren (R:Rep E w0 ok O σ tm w M) {f:Nat→Nat} {ids:List Nat} (hS:∀ s v,lk σ.sl s=some v→∀ i∈v.roots,i∈ids) (hB:∀ j b,lk σ.bx j=some b→∀ i∈b.c.roots,i∈ids) (hinj:∀ i j,i∈ids→j∈ids→f i=f j→i=j) (hpin:∀ i∈ids,PIN≤f i→f i=i) :
  ∃ M',Rep E w0 ok O ⟨mapV (SV.ren f) σ.sl,z4c_ σ.rows f ids,mapV (fun b=>⟨b.ty,b.c.ren f⟩) σ.bx⟩ tm w M':=by
 let g:Nat→Loc:=fun j=>match ids.find? (fun i=>Nat.beq (f i) j) with | some i=>M.loc i | none=>M.loc j
 have hg:∀ i∈ids,g (f i)=M.loc i:=by
  intro i hi
  show (match ids.find? (fun k=>Nat.beq (f k) (f i)) with | some i=>M.loc i | none=>M.loc (f i))=M.loc i
  cases hq:ids.find? (fun k=>Nat.beq (f k) (f i)) with
  | none=>have:=List.find?_eq_none.1 hq i hi; simp at this
  | some k =>
   have h1:=List.mem_of_find?_eq_some hq
   have h2:f k=f i:=by have:=List.find?_some hq; exact Nat.eq_of_beq_eq_true this
   rw [hinj k i h1 hi h2]
 have H:Renm M { M with loc:=g } f ids:=⟨hg,rfl,rfl,rfl⟩
 have hrow:∀ j,(∃ r,lk (z4c_ σ.rows f ids) j=some r)→∃ i∈ids,f i=j∧∃ r,lk σ.rows i=some r:=fun j ⟨r,hr⟩=>by
  obtain ⟨i,h1,h2,h3⟩:=ze2_ hr; exact ⟨i,h1,h2,r,h3⟩
 have hbx:∀ j b,lk (mapV (fun b:Bx=>(⟨b.ty,b.c.ren f⟩:Bx)) σ.bx) j=some b→∃ u,lk σ.bx j=some u∧b=⟨u.ty,u.c.ren f⟩:=fun j b h=>by
  rw [z1a_] at h
  obtain ⟨u,h1,rfl⟩:=Option.map_eq_some_iff.1 h
  exact ⟨u,h1,rfl⟩
 have hbx1:∀ j,(∃ b,lk (mapV (fun b:Bx=>(⟨b.ty,b.c.ren f⟩:Bx)) σ.bx) j=some b)→∃ b,lk σ.bx j=some b:=fun j ⟨b,h⟩=>by
  obtain ⟨u,h1,_⟩:=hbx j b h; exact ⟨u,h1⟩
 have live:∀ u,Live σ u→(∀ i∈u.roots,i∈ids)→Live ⟨mapV (SV.ren f) σ.sl,z4c_ σ.rows f ids,mapV (fun b=>⟨b.ty,b.c.ren f⟩) σ.bx⟩ (u.ren f):=fun u hu hin=>⟨fun j hj=>by
   rw [(z90_ f u).1] at hj
   obtain ⟨i,hi,rfl⟩:=List.mem_map.1 hj
   obtain ⟨r,hr⟩:=hu.rows i hi
   exact znv_ (hin i hi) hr,fun j hj=>by
   rw [(z90_ f u).2.1] at hj
   obtain ⟨b,hb⟩:=hu.boxes j hj
   exact ⟨_,by show lk (mapV _ σ.bx) j=_; rw [z1a_,hb]; rfl⟩⟩
 refine ⟨{ M with loc:=g },?_⟩
 constructor
 ·intro s v h
  have h:lk (mapV (SV.ren f) σ.sl) s=some v:=h
  rw [z1a_] at h
  obtain ⟨u,h1,rfl⟩:=Option.map_eq_some_iff.1 h
  obtain ⟨z,h2,h3⟩:=R.slots s u h1
  exact ⟨z,h2,zts_ H (hS s u h1) h3⟩
 ·intro j r h
  obtain ⟨i,h1,rfl,h3⟩:=ze2_ h
  obtain ⟨l,e1,e2⟩:=R.rows i r h3
  exact ⟨l,(hg i h1).trans e1,e2⟩
 ·intro j b h
  obtain ⟨u,h1,rfl⟩:=hbx j b h
  obtain ⟨cs,h2,h3,h4⟩:=R.boxes j u h1
  exact ⟨cs,ztq_ H (hB j u h1) h2,h3,fun hc=>by
   rw [(z90_ f u.c).2.2.2.2] at hc
   rw [(z90_ f u.c).2.2.2.1]
   exact h4 hc⟩
 ·intro i j hij hi hj k hk
  obtain ⟨i',i1,rfl,i3⟩:=hrow i hi
  obtain ⟨j',j1,rfl,j3⟩:=hrow j hj
  show k∉z1_ (g (f j')).1 (g (f j')).2
  have hk:k∈z1_ (g (f i')).1 (g (f i')).2:=hk
  rw [hg i' i1] at hk
  rw [hg j' j1]
  exact R.rr i' j' (fun e=>hij (by rw [e])) i3 j3 k hk
 ·exact fun i j hij hi hj=>R.bb i j hij (hbx1 i hi) (hbx1 j hj)
 ·intro i j hi hj
  obtain ⟨i',i1,rfl,i3⟩:=hrow i hi
  show M.blk j∉z1_ (g (f i')).1 (g (f i')).2
  rw [hg i' i1]
  exact R.rb i' j i3 (hbx1 j hj)
 ·intro i hi k hk
  obtain ⟨i',i1,rfl,i3⟩:=hrow i hi
  have hk:k∈z1_ (g (f i')).1 (g (f i')).2:=hk
  rw [hg i' i1] at hk
  exact R.ownR i' i3 k hk
 ·exact fun i hi=>R.ownB i (hbx1 i hi)
 ·exact R.okB
 ·intro s v h
  have h:lk (mapV (SV.ren f) σ.sl) s=some v:=h
  rw [z1a_] at h
  obtain ⟨u,h1,rfl⟩:=Option.map_eq_some_iff.1 h
  exact live u (R.liveS s u h1) (hS s u h1)
 ·intro j b h
  obtain ⟨u,h1,rfl⟩:=hbx j b h
  exact live u.c (R.liveB j u h1) (hB j u h1)
 ·exact R.kept
 ·intro i hi hr
  obtain ⟨i',i1,rfl,i3⟩:=hrow i hr
  show z6_ (g (f i')).1 (g (f i')).2=_
  rw [hg i' i1]
  have e:=hpin i' i1 hi
  rw [e] at hi ⊢
  exact R.pin i' hi i3
 ·exact fun i hi hq=>R.pinB i hi (hbx1 i hq)

theorem ze3_ {sl:List (Nat×SV)}:∀ {L:List Nat} {s:Nat} {v:SV},lk (z5w_ sl L) s=some v→lk sl s=some v
 | [],s,v,h=>by cases h
 | i::L,s,v,h=>by
  simp only [z5w_] at h
  split at h
  ·rename_i u hu
   rw [zm_] at h
   split at h
   ·rename_i e; subst e; cases h; exact hu
   ·exact ze3_ h
  ·exact ze3_ h
theorem ze4_ {bx:List (Nat×Bx)}:∀ {L:List Nat} {s:Nat} {v:Bx},lk (z4d_ bx L) s=some v→s∈L∧lk bx s=some v
 | [],s,v,h=>by cases h
 | i::L,s,v,h=>by
  simp only [z4d_] at h
  split at h
  ·rename_i u hu
   rw [zm_] at h
   split at h
   ·rename_i e; subst e; cases h; exact ⟨by simp,hu⟩
   ·obtain ⟨h1,h2⟩:=ze4_ h; exact ⟨by simp [h1],h2⟩
  ·obtain ⟨h1,h2⟩:=ze4_ h; exact ⟨by simp [h1],h2⟩
theorem znw_ {bx:List (Nat×Bx)}:∀ {L:List Nat} {s:Nat} {v:Bx},s∈L→lk bx s=some v→∃ v',lk (z4d_ bx L) s=some v'
 | [],s,v,h,_=>by cases h
 | i::L,s,v,h,hv=>by
  simp only [z4d_]
  by_cases e:s=i
  ·subst e; rw [hv]; exact ⟨v,z3c_ _ _ _⟩
  ·obtain ⟨v',h'⟩:=znw_ ((List.mem_cons.1 h).resolve_left e) hv
   split
   ·rw [zm_]; split; exact ⟨_,rfl⟩; exact ⟨v',h'⟩
   ·exact ⟨v',h'⟩

theorem ztt_ (l:List Nat):∀ {σ:St} {j:Nat},(∃ b,lk (l.foldl St.dropB σ).bx j=some b)→j∉l∧∃ b,lk σ.bx j=some b:=by
 induction l with
 | nil=>intro σ j h; exact ⟨by simp,h⟩
 | cons i l ih =>
  intro σ j h
  obtain ⟨h1,b,h2⟩:=ih (σ:=σ.dropB i) h
  refine ⟨?_,(Sub.dropB σ i).bx j b h2⟩
  simp only [List.mem_cons,not_or]
  exact ⟨zdm_ ⟨b,h2⟩,h1⟩

theorem ztu_ (R:Rep E w0 ok O σ tm w M) (L B:List Nat):∃ M',Rep E w0 ok O (σ.norm L B) tm w M':=by
 have R1:=R.dropsB (σ.bx.filterMap (fun x=>bif B.any (Nat.beq x.1) then none else some x.1))
 have hin:∀ j,(∃ b,lk ((σ.bx.filterMap (fun x=>bif B.any (Nat.beq x.1) then none else some x.1)).foldl St.dropB σ).bx j=some b)→j∈B:=by
  intro j hj
  obtain ⟨h1,b,h2⟩:=ztt_ _ hj
  refine Classical.byContradiction fun hn=>h1 (List.mem_filterMap.2 ⟨(j,b),zx_ h2,?_⟩)
  have:B.any (Nat.beq j)=false:=by
   cases hq:B.any (Nat.beq j) with
   | false=>rfl
   | true =>
    obtain ⟨x,hx,hb⟩:=List.any_eq_true.1 hq
    exact absurd (Nat.eq_of_beq_eq_true hb▸hx) hn
  simp [this]
 unfold St.norm
 simp only []
 generalize (σ.bx.filterMap (fun x=>bif B.any (Nat.beq x.1) then none else some x.1)).foldl St.dropB σ=σ1 at R1 hin ⊢
 have R2:Rep E w0 ok O ⟨z5w_ σ1.sl L,σ1.rows,z4d_ σ1.bx B⟩ tm w M:=by
  have live:∀ u,Live σ1 u→Live ⟨z5w_ σ1.sl L,σ1.rows,z4d_ σ1.bx B⟩ u:=fun u hu=>⟨hu.rows,fun i hi=>by
   obtain ⟨b,hb⟩:=hu.boxes i hi
   exact znw_ (hin i ⟨b,hb⟩) hb⟩
  exact R1.weaken (fun s v h=>⟨⟨v,ze3_ h,.same v⟩,live v (R1.liveS s v (ze3_ h))⟩) (fun i r h=>h) (fun i b h=>⟨⟨b,(ze4_ h).2,rfl,.same _⟩,live b.c (R1.liveB i b (ze4_ h).2)⟩)
 generalize hids:z36_ (σ1.rows.filterMap (fun x=>bif Nat.blt x.1 PIN then none else some x.1)++((z5w_ σ1.sl L).flatMap (fun x=>x.2.roots)++(z4d_ σ1.bx B).flatMap (fun x=>x.2.c.roots))) []=ids
 cases hl:Nat.blt ids.length 1000
 ·exact ⟨M,R.weaken (fun s v h=>by cases h) (fun i r h=>by cases h) (fun i b h=>by cases h)⟩
 ·have hlen:ids.length<1000:=Nat.le_of_ble_eq_true hl
  exact R2.ren (fun s v h i hi=>by
   rw [← hids]
   exact ze1_ _ _ _ (.inl (List.mem_append.2 (.inr (List.mem_append.2 (.inl (List.mem_flatMap.2 ⟨(s,v),zx_ h,hi⟩))))))) (fun j b h i hi=>by
   rw [← hids]
   exact ze1_ _ _ _ (.inl (List.mem_append.2 (.inr (List.mem_append.2 (.inr (List.mem_flatMap.2 ⟨(j,b),zx_ h,hi⟩))))))) (fun i j hi hj h=>zto_ hlen hi hj h) (fun i hi h=>ztp_ hlen hi h)
end
end Go.Proofs.YtioaaljaohhjiaaGreatDoor.Ev

namespace Go.Proofs.YtioaaljaohhjiaaGreatDoor.Ev
open Go.RowKit

section
variable {R0 : Type} {res : R0}

theorem ze5_:∀ {p:List PK} {q:List Step} {k:PT p→Option R0},getP p q k=some res→∃ x,z5q_ p x=q∧k x=some res
 | [],[],k,h=>⟨(),rfl,h⟩
 | .ix::p,.ix n::q,k,h=>by
  obtain ⟨x,h1,h2⟩:=ze5_ (p:=p) (k:=fun x=>k (n,x)) h
  exact ⟨(n,x),by simp [z5q_,h1],h2⟩
 | .f b::p,.f c::q,k,h=>by
  simp only [getP] at h
  cases hb:(b==c) <;> rw [hb] at h
  ·cases h
  ·obtain ⟨x,h1,h2⟩:=ze5_ (p:=p) (k:=k) h
   exact ⟨x,by simp only [z5q_,h1,eq_of_beq hb],h2⟩
 | .u::p,.u::q,k,h=>by
  obtain ⟨x,h1,h2⟩:=ze5_ (p:=p) (k:=k) h
  exact ⟨x,by simp [z5q_,h1],h2⟩
 | [],_::_,k,h=>by cases h
 | .ix::p,[],k,h=>by cases h
 | .ix::p,.f _::_,k,h=>by cases h
 | .ix::p,.u::_,k,h=>by cases h
 | .f b::p,[],k,h=>by cases h
 | .f b::p,.ix _::_,k,h=>by cases h
 | .f b::p,.u::_,k,h=>by cases h
 | .u::p,[],k,h=>by cases h
 | .u::p,.ix _::_,k,h=>by cases h
 | .u::p,.f _::_,k,h=>by cases h
theorem znx_:∀ {l m:List Bool},zb7_ l m=true→l=m
 | [],[],_=>rfl
 | a::l,b::m,h=>by
  simp only [zb7_,Bool.and_eq_true] at h
  rw [eq_of_beq h.1,znx_ h.2]
 | [],_::_,h=>by cases h
 | _::_,[],h=>by cases h
theorem z91_ {u t:Ty} {x:u.T} {k:t.T→Option R0} (h:zl_ u t x k=some res):∃ e:u=t,k (e▸x)=some res:=by
 unfold zl_ at h
 split at h
 ·rename_i e; exact ⟨e,h⟩
 ·cases h
theorem z59_:∀ {s:SK} {v:SV} {k:s.T→Option R0},s.get v k=some res→∃ x,s.fill x=v∧k x=some res
 | .val t,v,k,h=>by
  simp only [SK.get] at h
  split at h
  ·obtain ⟨e,h⟩:=z91_ h; subst e; exact ⟨_,rfl,h⟩
  ·cases h
 | .ref i p,v,k,h=>by
  simp only [SK.get] at h
  split at h
  ·rename_i j q
   cases hb:Nat.beq i j <;> rw [hb] at h
   ·cases h
   ·obtain ⟨x,h1,h2⟩:=ze5_ h
    exact ⟨x,by simp only [SK.fill,h1,Nat.eq_of_beq_eq_true hb],h2⟩
  ·cases h
 | .vw i,v,k,h=>by
  simp only [SK.get] at h
  split at h
  ·rename_i j a b
   cases hb:Nat.beq i j <;> rw [hb] at h
   ·cases h
   ·exact ⟨(a,b),by simp only [SK.fill,Nat.eq_of_beq_eq_true hb],h⟩
  ·cases h
 | .ls i,v,k,h=>by
  simp only [SK.get] at h
  split at h
  ·rename_i j
   cases hb:Nat.beq i j <;> rw [hb] at h
   ·cases h
   ·exact ⟨(),by simp only [SK.fill,Nat.eq_of_beq_eq_true hb],h⟩
  ·cases h
 | .st s,v,k,h=>by
  simp only [SK.get] at h
  split at h
  ·obtain ⟨x,h1,h2⟩:=z59_ (s:=s) (k:=k) h
   exact ⟨x,by simp only [SK.fill,h1],h2⟩
  ·cases h
 | .pr a b,v,k,h=>by
  simp only [SK.get] at h
  split at h
  ·obtain ⟨x,h1,h⟩:=z59_ (s:=a) h
   obtain ⟨y,h2,h⟩:=z59_ (s:=b) h
   exact ⟨(x,y),by simp only [SK.fill,h1,h2],h⟩
  ·cases h
 | .bp i p o,v,k,h=>by
  simp only [SK.get] at h
  split at h
  ·rename_i j q c
   cases hb:(Nat.beq i j&&(zb7_ p q&&Nat.beq o c)) <;> rw [hb] at h
   ·cases h
   ·simp only [Bool.and_eq_true] at hb
    exact ⟨(),by simp only [SK.fill,Nat.eq_of_beq_eq_true hb.1,znx_ hb.2.1,Nat.eq_of_beq_eq_true hb.2.2],h⟩
  ·cases h
 | .clo g s,v,k,h=>by
  simp only [SK.get] at h
  split at h
  ·rename_i g' w
   cases hb:Nat.beq g g' <;> rw [hb] at h
   ·cases h
   ·obtain ⟨x,h1,h2⟩:=z59_ (s:=s) (k:=k) h
    exact ⟨x,by simp only [SK.fill,h1,Nat.eq_of_beq_eq_true hb],h2⟩
  ·cases h
 | .tup s,v,k,h=>by
  simp only [SK.get] at h
  split at h
  ·obtain ⟨x,h1,h2⟩:=z59_ (s:=s) (k:=k) h
   exact ⟨x,by simp only [SK.fill,h1],h2⟩
  ·cases h
 | .cns a b,v,k,h=>by
  simp only [SK.get] at h
  split at h
  ·obtain ⟨x,h1,h⟩:=z59_ (s:=a) h
   obtain ⟨y,h2,h⟩:=z59_ (s:=b) h
   exact ⟨(x,y),by simp only [SK.fill,h1,h2],h⟩
  ·cases h
 | .nl,v,k,h=>by
  simp only [SK.get] at h
  split at h
  ·exact ⟨(),rfl,h⟩
  ·cases h
 | .no,v,k,h=>by
  simp only [SK.get] at h
  split at h
  ·exact ⟨(),rfl,h⟩
  ·cases h
 | .un,v,k,h=>by
  simp only [SK.get] at h
  split at h
  ·exact ⟨(),rfl,h⟩
  ·cases h

theorem zj0_ {σ:List (Nat×SV)}:∀ {l:List (Nat×SK)} {k:slT l→Option R0},zb9_ σ l k=some res→∃ x,k x=some res∧∀ i v,(i,v)∈zb8_ l x→lk σ i=some v
 | [],k,h=>⟨(),h,by simp [zb8_]⟩
 | (i,s)::l,k,h=>by
  simp only [zb9_] at h
  split at h
  ·rename_i v hv
   obtain ⟨x,h1,h⟩:=z59_ h
   obtain ⟨y,h2,h3⟩:=zj0_ h
   refine ⟨(x,y),h2,fun j u hj=>?_⟩
   rcases List.mem_cons.1 hj with e | hj
   ·cases e; rw [hv,h1]
   ·exact h3 j u hj
  ·cases h
theorem zj1_ {σ:List (Nat×Row)}:∀ {l:List (Nat×TypeId×Ty×Bool)} {k:z8f_ l→Option R0},zba_ σ l k=some res→∃ x,k x=some res∧∀ i v,(i,v)∈z8j_ l x→lk σ i=some v
 | [],k,h=>⟨(),h,by simp [z8j_]⟩
 | (i,e,t,z)::l,k,h=>by
  simp only [zba_] at h
  split at h
  ·rename_i r hr
   cases hb:(Nat.beq r.e e&&(r.z==z)) <;> rw [hb] at h
   ·cases h
   ·simp only [Bool.and_eq_true] at hb
    simp only [cond_true] at h
    obtain ⟨he,h⟩:=z91_ h
    obtain ⟨y,h2,h3⟩:=zj1_ h
    obtain ⟨re,rt,rx,rz⟩:=r
    have e1:re=e:=Nat.eq_of_beq_eq_true hb.1
    have e2:rz=z:=eq_of_beq hb.2
    have e3:rt=t:=by injection he
    subst e1; subst e2; subst e3
    refine ⟨(rx,y),h2,fun j u hj=>?_⟩
    rcases List.mem_cons.1 hj with q | hj
    ·cases q; exact hr
    ·exact h3 j u hj
  ·cases h
theorem zj2_ {σ:List (Nat×Bx)}:∀ {l:List (Nat×TypeId×SK)} {k:bxT l→Option R0},zbb_ σ l k=some res→∃ x,k x=some res∧∀ i v,(i,v)∈z73_ l x→lk σ i=some v
 | [],k,h=>⟨(),h,by simp [z73_]⟩
 | (i,t,s)::l,k,h=>by
  simp only [zbb_] at h
  split at h
  ·rename_i b hb'
   cases hb:Nat.beq b.ty t <;> rw [hb] at h
   ·cases h
   ·simp only [cond_true] at h
    obtain ⟨x,h1,h⟩:=z59_ h
    obtain ⟨y,h2,h3⟩:=zj2_ h
    refine ⟨(x,y),h2,fun j u hj=>?_⟩
    rcases List.mem_cons.1 hj with q | hj
    ·cases q
     rw [hb',h1,← Nat.eq_of_beq_eq_true hb]
    ·exact h3 j u hj
  ·cases h

theorem z3g_:∀ (s:SK) (x:s.T),(s.fill x).roots=s.roots∧(s.fill x).boxes=s.boxes
 | .val t,x=>⟨rfl,rfl⟩
 | .ref i p,x=>⟨rfl,rfl⟩
 | .vw i,x=>⟨rfl,rfl⟩
 | .ls i,x=>⟨rfl,rfl⟩
 | .st s,x=>z3g_ s x
 | .pr a b,x=>⟨by simp [SK.fill,SV.roots,SK.roots,(z3g_ a x.1).1,(z3g_ b x.2).1],by simp [SK.fill,SV.boxes,SK.boxes,(z3g_ a x.1).2,(z3g_ b x.2).2]⟩
 | .bp i p o,x=>⟨rfl,rfl⟩
 | .clo g s,x=>z3g_ s x
 | .tup s,x=>z3g_ s x
 | .cns a b,x=>⟨by simp [SK.fill,SV.roots,SK.roots,(z3g_ a x.1).1,(z3g_ b x.2).1],by simp [SK.fill,SV.boxes,SK.boxes,(z3g_ a x.1).2,(z3g_ b x.2).2]⟩
 | .nl,x=>⟨rfl,rfl⟩
 | .no,x=>⟨rfl,rfl⟩
 | .un,x=>⟨rfl,rfl⟩
theorem zny_:∀ {l:List (Nat×TypeId×Ty×Bool)} {x:z8f_ l} {i:Nat},(l.any fun r=>Nat.beq r.1 i)=true→∃ r,lk (z8j_ l x) i=some r
 | (j,e,t,z)::l,x,i,h=>by
  simp only [List.any_cons,Bool.or_eq_true] at h
  simp only [z8j_]
  rw [zm_]
  split
  ·exact ⟨_,rfl⟩
  ·rename_i hne
   rcases h with h | h
   ·exact absurd (Nat.eq_of_beq_eq_true h) hne
   ·exact zny_ h
theorem znz_:∀ {l:List (Nat×TypeId×SK)} {x:bxT l} {i:Nat},(l.any fun r=>Nat.beq r.1 i)=true→∃ r,lk (z73_ l x) i=some r
 | (j,e,t)::l,x,i,h=>by
  simp only [List.any_cons,Bool.or_eq_true] at h
  simp only [z73_]
  rw [zm_]
  split
  ·exact ⟨_,rfl⟩
  ·rename_i hne
   rcases h with h | h
   ·exact absurd (Nat.eq_of_beq_eq_true h) hne
   ·exact znz_ h
theorem zj3_:∀ {l:List (Nat×SK)} {x:slT l} {i:Nat} {v:SV},(i,v)∈zb8_ l x→∃ s y,(i,s)∈l∧v=SK.fill s y
 | (j,s)::l,x,i,v,h=>by
  rcases List.mem_cons.1 h with e | h
  ·cases e; exact ⟨s,x.1,by simp,rfl⟩
  ·obtain ⟨s',y,h1,h2⟩:=zj3_ h; exact ⟨s',y,by simp [h1],h2⟩
theorem zj4_:∀ {l:List (Nat×TypeId×SK)} {x:bxT l} {i:Nat} {b:Bx},(i,b)∈z73_ l x→∃ t s y,(i,t,s)∈l∧b=⟨t,SK.fill s y⟩
 | (j,t,s)::l,x,i,v,h=>by
  rcases List.mem_cons.1 h with e | h
  ·cases e; exact ⟨t,s,x.1,by simp,rfl⟩
  ·obtain ⟨t',s',y,h1,h2⟩:=zj4_ h; exact ⟨t',s',y,by simp [h1],h2⟩
end

section
variable {P : Program} {E : Env} {w0 : World} {ok O : Nat → Prop} {σ σ' : St} {tm : Array Value} {w w' : World} {M M' : Map} {a : Act} {R0 : Type} {res : R0}

theorem ze6_ {h:Head} {x:h.T} {s:SK} {y:s.T} (hk:s.okIn h=true):Live (h.fill x) (s.fill y):=by
 simp only [SK.okIn,Bool.and_eq_true,List.all_eq_true] at hk
 exact ⟨fun i hi=>by rw [(z3g_ s y).1] at hi; exact zny_ (hk.1 i hi),fun i hi=>by rw [(z3g_ s y).2] at hi; exact znz_ (hk.2 i hi)⟩

theorem z92_ (R:Rep E w0 ok O σ tm w M) {h:Head} (hk:h.ok=true) {k:h.T→Option R0} (hg:h.get σ k=some res):∃ x M',k x=some res∧Rep E w0 ok O (h.fill x) tm w M':=by
 unfold Head.get at hg
 simp only [] at hg
 obtain ⟨M',R'⟩:=ztu_ R (h.sl.map (·.1)) (h.bx.map (·.1))
 generalize σ.norm (h.sl.map (·.1)) (h.bx.map (·.1))=σ1 at hg R'
 obtain ⟨x,hg,hx⟩:=zj0_ hg
 obtain ⟨y,hg,hy⟩:=zj1_ hg
 obtain ⟨z,hg,hz⟩:=zj2_ hg
 simp only [Head.ok,Bool.and_eq_true,List.all_eq_true] at hk
 refine ⟨(x,y,z),M',hg,R'.le ⟨fun s v hv=>hx s v (zx_ hv),fun s v hv=>hy s v (zx_ hv),fun s v hv=>hz s v (zx_ hv)⟩ (fun s v hv=>?_) (fun i b hb=>?_)⟩
 ·obtain ⟨sk,y',h1,rfl⟩:=zj3_ (zx_ hv)
  exact ze6_ (hk.1 _ h1)
 ·obtain ⟨t,sk,y',h1,rfl⟩:=zj4_ (zx_ hb)
  exact ze6_ (hk.2 _ h1)

theorem zo0_ {n:Nat} {ex:List (Nat×Head)} (hex:ex.all (fun x=>x.2.ok)=true) {kx:Nat→St→Option R0} {Q:Exit→Act→World→Prop} {id:Nat} (h:Then E w0 ok O res n (kx id) (Q (.exit id))):Then E w0 ok O res n (zd5_ ex kx id) (Q (.exit id)):=by
 intro w2 ok2 O2 hc σ a w M hk R hn hd
 unfold zd5_ at hk
 split at hk
 ·rename_i hh hl
  have hok:=List.all_eq_true.1 hex _ (zx_ hl)
  obtain ⟨x,M',h1,R'⟩:=z92_ R hok hk
  exact h _ _ _ hc _ a w M' h1 R' hn hd
 ·cases hk

def opsB (n:Nat) (ops:Array Oper):Bool:=ops.toList.all fun o=>match o.dst with | some d=>Nat.blt d n | none=>true
def z3h_ (n:Nat):Code→Bool
 | .region _ ops _=>opsB n ops
 | .seq a b=>z3h_ n a&&z3h_ n b
 | .cond _ a b=>z3h_ n a&&z3h_ n b
 | .block _ c=>z3h_ n c
 | .loop c=>z3h_ n c
 | _=>true
def zb_:Code→List Code
 | .seq a b=>zb_ a++zb_ b
 | .cond _ a b=>zb_ a++zb_ b
 | .block _ c=>zb_ c
 | .loop c=>c::zb_ c
 | _=>[]
def z3i_:Code→List Code
 | .seq a b=>b::(z3i_ a++z3i_ b)
 | .cond _ a b=>z3i_ a++z3i_ b
 | .block _ c=>z3i_ c
 | .loop c=>z3i_ c
 | _=>[]
def zc_ (E:Env) (LO:Oracles R0) (rd:St→Option R0) (b:Code) (f:St→(Nat→St→Option R0)→Option R0):Prop :=
 ∃ (h:Head) (ex:List (Nat×Head)) (F:Nat→h.T→(Nat→St→Option R0)→Option R0) (N:Nat),h.ok=true∧ex.all (fun x=>x.2.ok)=true∧(∀ x kx,F 0 x kx=none) ∧
  (∀ n x kx,F (n+1) x kx=evC E LO rd b (h.fill x) (fun σ=>h.get σ fun x'=>F n x' kx) (zd5_ ex kx))∧(∀ σ kx,f σ kx=h.get σ fun x=>F N x kx)
def zo1_ (E:Env) (LO:Oracles R0) (rd:St→Option R0) (b:Code) (f:St→(St→Option R0)→(Nat→St→Option R0)→Option R0):Prop :=
 ∃ (h hn:Head) (ex:List (Nat×Head)) (F:h.T→(St→Option R0)→(Nat→St→Option R0)→Option R0),h.ok=true∧hn.ok=true∧ex.all (fun x=>x.2.ok)=true ∧
  (∀ x kn kx,F x kn kx=evC E LO rd b (h.fill x) (fun σ=>hn.get σ fun y=>kn (hn.fill y)) (zd5_ ex kx))∧(∀ σ kn kx,f σ kn kx=h.get σ fun x=>F x kn kx)
structure CodeOK (E:Env) (LO:Oracles R0) (rd:St→Option R0) (n:Nat) (c:Code):Prop where
 dst:z3h_ n c=true
 loops:∀ b∈zb_ c,∀ f,LO.loop (z2r_ b)=some f→zc_ E LO rd b f
 cuts:∀ b∈z3i_ c,∀ f,LO.cut (z2r_ b)=some f→zo1_ E LO rd b f

theorem ztv_ {n:Nat} {ops:Array Oper} (h:opsB n ops=true):∀ o∈ops.toList,∀ d,o.dst=some d→d<n:=by
 intro o ho d hd
 simp only [opsB,List.all_eq_true] at h
 have:=h o ho
 rw [hd] at this
 exact Nat.le_of_ble_eq_true this

theorem Then.mono {n:Nat} {k:St→Option R0} {N N':Act→World→Prop} (h:Then E w0 ok O res n k N) (hh:∀ a w,N a w→N' a w):Then E w0 ok O res n k N' :=
 fun w1 ok1 O1 hc σ a w M h1 R hn hd=>hh a w (h w1 ok1 O1 hc σ a w M h1 R hn hd)

theorem z5a_ [Glob P] (T:zi_ P E.ti=true) (EQ:EqOK P E) (hmix:P.follows .mixedOrders=true) {LO:Oracles R0} {rd:St→Option R0} {n:Nat}:∀ {c:Code},CodeOK E LO rd n c→∀ {w0:World} {ok O:Nat→Prop},SpecOK P E w0 O→z27_ P E w0 O→∀ {kn:St→Option R0} {kx:Nat→St→Option R0} {Q:Exit→Act→World→Prop} {σ:St} {a:Act} {w:World} {M:Map},
  evC E LO rd c σ kn kx=some res→Rep E w0 ok O σ a.tmps w M→a.tmps.size=n→a.defers=[]→Then E w0 ok O res n kn (Q .normal)→(∀ id,Then E w0 ok O res n (kx id) (Q (.exit id)))→Then E w0 ok O res n rd (Q .ret)→c.wp P Q a w
 | .skip,C,w0,ok,O,S,K,kn,kx,Q,σ,a,w,M,h,R,hn,hd,hkn,hkx,hrd=>wp_skip (hkn.at σ a w M h R hn hd)
 | .region id ops dr,C,w0,ok,O,S,K,kn,kx,Q,σ,a,w,M,h,R,hn,hd,hkn,hkx,hrd=>by
  have hB:=ztv_ C.dst
  cases dr with
  | false =>
   simp only [evC,cond_false] at h
   refine wp_region ?_
   have:=ziu_ (P:=P) T EQ S K hB hkn ops.toList 0 σ a w M rfl h R hn hd
   rw [List.range_eq_range',← Array.length_toList]
   simpa using this
  | true =>
   simp only [evC,cond_true] at h
   have:=ztn_ (P:=P) (id:=id) T EQ S K hmix hB hkn h R hn hd
   simpa using this
 | .seq x y,C,w0,ok,O,S,K,kn,kx,Q,σ,a,w,M,h,R,hn,hd,hkn,hkx,hrd=>by
  have hC:z3h_ n x=true∧z3h_ n y=true:=by simpa [z3h_] using C.dst
  have Cx:CodeOK E LO rd n x:=⟨hC.1,fun b hb=>C.loops b (by simp [zb_,hb]),fun b hb=>C.cuts b (by simp [z3i_,hb])⟩
  have Cy:CodeOK E LO rd n y:=⟨hC.2,fun b hb=>C.loops b (by simp [zb_,hb]),fun b hb=>C.cuts b (by simp [z3i_,hb])⟩
  simp only [evC] at h
  refine wp_seq ?_
  cases hc:LO.cut (z2r_ y) with
  | none =>
   rw [hc] at h
   simp only [] at h
   exact z5a_ T EQ hmix Cx S K h R hn hd (fun w2 ok2 O2 hc σ1 a1 w1 M1 h1 R1 hn1 hd1=>z5a_ T EQ hmix Cy (S.chg hc) (K.chg hc) h1 R1 hn1 hd1 (hkn.chg hc) (fun id=>(hkx id).chg hc) (hrd.chg hc)) hkx hrd
  | some f =>
   rw [hc] at h
   simp only [] at h
   obtain ⟨hh,hk,ex,F,c1,c4,c5,c2,c3⟩:=C.cuts y (by simp [z3i_]) f hc
   refine z5a_ T EQ hmix Cx S K h R hn hd (fun w2 ok2 O2 hc σ1 a1 w1 M1 h1 R1 hn1 hd1=>?_) hkx hrd
   rw [c3] at h1
   obtain ⟨x1,M2,h2,R2⟩:=z92_ R1 c1 h1
   rw [c2] at h2
   refine z5a_ T EQ hmix Cy (S.chg hc) (K.chg hc) h2 R2 hn1 hd1 (fun w5 ok5 O5 hc5 σ3 a3 w3 M3 h3 R3 hn3 hd3=>?_) (fun id=>zo0_ c5 ((hkx id).chg hc)) (hrd.chg hc)
   obtain ⟨x4,M4,h4,R4⟩:=z92_ R3 c4 h3
   exact hkn _ _ _ (hc.trans hc5) _ a3 w3 M4 h4 R4 hn3 hd3
 | .cond x c1 c2,C,w0,ok,O,S,K,kn,kx,Q,σ,a,w,M,h,R,hn,hd,hkn,hkx,hrd=>by
  have hC:z3h_ n c1=true∧z3h_ n c2=true:=by simpa [z3h_] using C.dst
  have Cx:CodeOK E LO rd n c1:=⟨hC.1,fun b hb=>C.loops b (by simp [zb_,hb]),fun b hb=>C.cuts b (by simp [z3i_,hb])⟩
  have Cy:CodeOK E LO rd n c2:=⟨hC.2,fun b hb=>C.loops b (by simp [zb_,hb]),fun b hb=>C.cuts b (by simp [z3i_,hb])⟩
  simp only [evC] at h
  split at h
  ·rename_i p hp
   have hv:=zif_ R rfl hp
   refine wp_cond hv ?_
   split at h
   ·rename_i hpt
    rw [hpt]
    exact z5a_ T EQ hmix Cx S K h R hn hd hkn hkx hrd
   ·rename_i hpf
    rw [if_neg hpf]
    exact z5a_ T EQ hmix Cy S K h R hn hd hkn hkx hrd
  ·cases h
 | .block id c,C,w0,ok,O,S,K,kn,kx,Q,σ,a,w,M,h,R,hn,hd,hkn,hkx,hrd=>by
  have Cx:CodeOK E LO rd n c:=⟨C.dst,C.loops,C.cuts⟩
  simp only [evC] at h
  refine wp_block (z5a_ T EQ hmix Cx S K h R hn hd hkn (fun j w2 ok2 O2 hc σ1 a1 w1 M1 h1 R1 hn1 hd1=>?_) hrd)
  simp only [nbeq] at h1
  show if j=id then Q .normal a1 w1 else Q (.exit j) a1 w1
  by_cases hj:j=id
  ·rw [if_pos hj]
   simp only [hj,decide_true,cond_true] at h1
   exact hkn _ _ _ hc σ1 a1 w1 M1 h1 R1 hn1 hd1
  ·rw [if_neg hj]
   simp only [hj,decide_false,cond_false] at h1
   exact hkx j _ _ _ hc σ1 a1 w1 M1 h1 R1 hn1 hd1
 | .loop c,C,w0,ok,O,S,K,kn,kx,Q,σ,a,w,M,h,R,hn,hd,hkn,hkx,hrd=>by
  have Cx:CodeOK E LO rd n c:=⟨C.dst,fun b hb=>C.loops b (by simp [zb_,hb]),C.cuts⟩
  simp only [evC] at h
  split at h
  ·rename_i f hf
   obtain ⟨hh,ex,F,N,l1,l2,l3,l4,l5⟩:=C.loops c (by simp [zb_]) f hf
   rw [l5] at h
   obtain ⟨x,M',h1,R1⟩:=z92_ R l1 h
   refine wp_loop_ghost (fun m a w=>∃ x M w2 ok2 O2,F m x kx=some res∧Chg E w0 ok O w2 ok2 O2∧Rep E w2 ok2 O2 (hh.fill x) a.tmps w M∧a.tmps.size=n∧a.defers=[]) N ⟨x,M',_,_,_,h1,.refl,R1,hn,hd⟩ ?_
   intro m a1 w1 ⟨x1,M1,w2,ok2,O2,h2,hc,R2,hn2,hd2⟩
   cases m with
   | zero=>rw [l3] at h2; cases h2
   | succ m =>
    rw [l4] at h2
    refine z5a_ T EQ hmix Cx (S.chg hc) (K.chg hc) h2 R2 hn2 hd2 (fun w5 ok5 O5 hc5 σ3 a3 w3 M3 h3 R3 hn3 hd3=>?_) (fun id=>zo0_ l2 ((hkx id).chg hc)) (hrd.chg hc)
    obtain ⟨x4,M4,h4,R4⟩:=z92_ R3 l1 h3
    exact ⟨m,Nat.lt_succ_self m,x4,M4,_,_,_,h4,hc.trans hc5,R4,hn3,hd3⟩
  ·cases h
 | .exit id,C,w0,ok,O,S,K,kn,kx,Q,σ,a,w,M,h,R,hn,hd,hkn,hkx,hrd=>wp_exit ((hkx id).at σ a w M h R hn hd)
 | .ret,C,w0,ok,O,S,K,kn,kx,Q,σ,a,w,M,h,R,hn,hd,hkn,hkx,hrd=>wp_ret (hrd.at σ a w M h R hn hd)
 | .goto l,C,w0,ok,O,S,K,kn,kx,Q,σ,a,w,M,h,R,hn,hd,hkn,hkx,hrd=>by cases h
 | .label l,C,w0,ok,O,S,K,kn,kx,Q,σ,a,w,M,h,R,hn,hd,hkn,hkx,hrd=>by cases h
theorem ze7_ [Glob P] (T:zi_ P E.ti=true) (EQ:EqOK P E) (S:SpecOK P E w0 O) (K:z27_ P E w0 O) (hmix:P.follows .mixedOrders=true) {LO:Oracles R0} {rd:St→Option R0} {n:Nat} {c:Code} (C:CodeOK E LO rd n c) {kn:St→Option R0} {kx:Nat→St→Option R0} {Q:Exit→Act→World→Prop} {σ:St} {a:Act} {w:World} {M:Map}
  (h:evC E LO rd c σ kn kx=some res) (R:Rep E w0 ok O σ a.tmps w M) (hn:a.tmps.size=n) (hd:a.defers=[]) (hkn:Then E w0 ok O res n kn (Q .normal)) (hkx:∀ id,Then E w0 ok O res n (kx id) (Q (.exit id))) (hrd:Then E w0 ok O res n rd (Q .ret)):c.wp P Q a w :=
 z5a_ T EQ hmix C S K h R hn hd hkn hkx hrd
end
end Go.Proofs.YtioaaljaohhjiaaGreatDoor.Ev

namespace Go.Proofs.YtioaaljaohhjiaaGreatDoor.Ev
open Go.RowKit

section
variable {P : Program} {E : Env} {w0 : World} {ok O : Nat → Prop} {σ σ' : St} {tm : Array Value} {w w' : World} {M M' : Map} {a : Act} {R0 : Type} {res : R0}

def argN:Ty→Nat
 | .un=>0
 | .pr _ b=>argN b+1
 | _=>1
theorem z65_ {t:Ty} {l:List SVal} {k:t.T→Option R0} (h1:∀ s,z1f_ t [s] k=zl_ s.t t s.x k) (h0:z1f_ t [] k=none) (h2:∀ s s' l,z1f_ t (s::s'::l) k=none) (hn:argN t=1) (hs:∀ (x:t.T) i,z3v_ t x i=[(i,.val t x)])
  (h:z1f_ t l k=some res) {vs:List Value} (ha:z1h_ w ok l vs):∃ x,k x=some res∧vs.length=argN t∧∀ i j s,lk (z3v_ t x i) j=some s→∃ y,i≤j∧j<i+argN t∧vs[j-i]?=some y∧(∃ u z,s=.val u z∧∃ cs,Rd w ok u z cs∧zv_ u y cs):=by
 match l,vs,ha with
 | [],_,_=>rw [h0] at h; cases h
 | s::s'::l,_,_=>rw [h2] at h; cases h
 | [s],[v],ha =>
  rw [h1] at h
  obtain ⟨e,h⟩:=z91_ h
  obtain ⟨st,sx⟩:=s
  dsimp only at e
  subst e
  refine ⟨sx,h,by rw [hn]; rfl,fun i j s' hj=>?_⟩
  rw [hs] at hj
  obtain ⟨rfl,rfl⟩:=z2x_ hj
  exact ⟨v,Nat.le_refl _,by omega,by simp,_,_,rfl,ha.1⟩
theorem zj5_:∀ {t:Ty} {l:List SVal} {k:t.T→Option R0} {vs:List Value},z1f_ t l k=some res→z1h_ w ok l vs→∃ x,k x=some res∧vs.length=argN t∧∀ i j s,lk (z3v_ t x i) j=some s→∃ y,i≤j∧j<i+argN t∧vs[j-i]?=some y∧(∃ u z,s=.val u z∧∃ cs,Rd w ok u z cs∧zv_ u y cs)
 | .un,l,k,vs,h,ha=>by
  match l,vs,ha with
  | [],[],_=>exact ⟨(),h,rfl,fun i j s hj=>by cases hj⟩
  | _::_,_,_=>cases h
 | .pr a b,l,k,vs,h,ha=>by
  match l,vs,ha with
  | [],_,_=>cases h
  | s::l,v::vs,ha =>
   simp only [z1f_] at h
   obtain ⟨e,h⟩:=z91_ h
   obtain ⟨st,sx⟩:=s
   dsimp only at e
   subst e
   obtain ⟨y,h1,h2,h3⟩:=zj5_ (t:=b) h ha.2
   refine ⟨(sx,y),h1,by simp [argN,h2],fun i j s' hj=>?_⟩
   simp only [z3v_,zm_] at hj
   split at hj
   ·rename_i e2
    subst e2
    cases hj
    exact ⟨v,Nat.le_refl _,by simp only [argN]; omega,by simp,_,_,rfl,ha.1⟩
   ·obtain ⟨y',g1,g2,g3,g4⟩:=h3 (i+1) j s' hj
    refine ⟨y',by omega,by simp only [argN]; omega,?_,g4⟩
    rw [show j-i=(j-(i+1))+1 by omega,List.getElem?_cons_succ]
    exact g3
 | .int i,l,k,vs,h,ha=>z65_ (fun _=>rfl) rfl (fun _ _ _=>rfl) rfl (fun _ _=>rfl) h ha
 | .bool,l,k,vs,h,ha=>z65_ (fun _=>rfl) rfl (fun _ _ _=>rfl) rfl (fun _ _=>rfl) h ha
 | .str,l,k,vs,h,ha=>z65_ (fun _=>rfl) rfl (fun _ _ _=>rfl) rfl (fun _ _=>rfl) h ha
 | .sl e t,l,k,vs,h,ha=>z65_ (fun _=>rfl) rfl (fun _ _ _=>rfl) rfl (fun _ _=>rfl) h ha
 | .st t,l,k,vs,h,ha=>z65_ (fun _=>rfl) rfl (fun _ _ _=>rfl) rfl (fun _ _=>rfl) h ha
 | .ptr t,l,k,vs,h,ha=>z65_ (fun _=>rfl) rfl (fun _ _ _=>rfl) rfl (fun _ _=>rfl) h ha
 | .fn g c,l,k,vs,h,ha=>z65_ (fun _=>rfl) rfl (fun _ _ _=>rfl) rfl (fun _ _=>rfl) h ha
 | .fs ids,l,k,vs,h,ha=>z65_ (fun _=>rfl) rfl (fun _ _ _=>rfl) rfl (fun _ _=>rfl) h ha

def Rv (P:Program) (tm:Array Value) (w:World) (r:ResultVar) (v:Value):Prop:=match r with
 | .tmp t=>tm.getD t undef=v
 | .cell a t=>∃ ad,tm.getD a undef=.pointer (some ad)∧(loadVar t ad).run P w=.ok v w
def Rvs (P:Program) (tm:Array Value) (w:World):List ResultVar→List Value→Prop
 | [],[]=>True
 | r::l,v::vs=>Rv P tm w r v∧Rvs P tm w l vs
 | _,_=>False
theorem zo2_ {tm:Array Value} {i:Nat} {u:Value} (h:tm[i]?=some u):tm.getD i undef=u:=by rw [Array.getD_eq_getD_getElem?,h]; rfl

theorem ztw_ (t:Ty):∀ s:SV,Live σ s→Live σ (s.fit t):=by
 intro s hl
 induction s with
 | val u x=>cases u <;> simp only [SV.fit] <;> first | exact z1x_ _ _ | (cases t.isSt <;> exact z1x_ _ _)
 | st s ih =>
  simp only [SV.fit]
  cases t.isSt
  ·exact ih ⟨hl.rows,hl.boxes⟩
  ·exact hl
 | _=>exact hl

theorem zo3_ (T:zi_ P E.ti=true) (R:Rep E w0 ok O σ tm w M) {r:ResultVar} {s:SV} (h:resV E σ r=some s):∃ v,Rv P tm w r v∧RepS w0 ok M s v:=by
 cases r with
 | tmp t =>
  obtain ⟨u,hu,hS⟩:=R.slots t s h
  exact ⟨u,zo2_ hu,hS⟩
 | cell a t =>
  simp only [resV] at h
  split at h
  ·rename_i j q o hs
   split at h
   ·rename_i b hb
    split at h
    ·rename_i s' hp
     cases hk:(Nat.beq (b.c.offP q) o&&(s'.fit (E.tyOf t)).okW (E.tyOf t)) <;> rw [hk] at h
     ·cases h
     ·cases h
      simp only [Bool.and_eq_true] at hk
      obtain ⟨k1,k2⟩:=hk
      have k1:=Nat.eq_of_beq_eq_true k1
      obtain ⟨k3,k4,k5,_⟩:=zbm_ k2
      obtain ⟨cs',g1,g2,g3⟩:=R.boxes j b hb
      obtain ⟨u,hu,cs,h3,h4⟩:=R.slots a _ hs
      simp only [RepV] at h3
      subst h3
      have hv:u=.pointer (some ⟨M.blk j,o,none⟩):=by
       rcases h4 with ⟨h5,_⟩ | ⟨_,h5⟩
       ·cases h5
       ·simp only [List.cons.injEq,and_true] at h5; exact h5.symm
      have hnc:b.c.isCh=false:=by
       cases hc:b.c with
       | nl =>
        rw [hc] at hp
        cases q with
        | nil=>cases hp; exact absurd k4.symm k5
        | cons x y=>cases hp
       | cns x y =>
        rw [hc] at hp
        cases q with
        | nil=>cases hp; exact absurd k4.symm k5
        | cons x y=>cases hp
       | _=>rfl
      obtain ⟨p1,p2,ds,rfl,e1,e2⟩:=z4z_ (zbi_ g1 hnc) hp
      have hf:=zia_ (t:=E.tyOf t) e2
      have hcell:=(z8o_ g2).mid
      rw [e1,k1,Nat.zero_add] at hcell
      obtain ⟨z,hz,hw⟩:=z8v_ (P:=P) T hf k3 (by rw [RepV.len hf,k4]) k5 hcell
      exact ⟨z,⟨_,by rw [zo2_ hu,hv],hz⟩,z14_ hf hw⟩
    ·cases h
   ·cases h
  ·cases h

theorem zj6_ (T:zi_ P E.ti=true):∀ {rs:List ResultVar} {t:Ty} {σ:St} {k:St→t.T→Option R0},Rep E w0 ok O σ tm w M→outC E rs t σ k=some res →
  ∃ σ' l vs,k σ' (erase t l)=some res∧holds (Rd w0 ok) w t l∧plain w t l∧Eaten E w0 ok O σ σ' tm w M (z1_ t l)∧Rvs P tm w rs vs∧(rs.length=0∧t=.un∨0<rs.length∧zbq_ rs.length t l vs)
 | [],t,σ,k,R,h=>by
  cases t with
  | un=>exact ⟨σ,(),[],h,trivial,trivial,⟨R,Free.nil,From.nil,Sub.refl σ⟩,trivial,.inl ⟨rfl,rfl⟩⟩
  | _=>cases h
 | r::l,t,σ,k,R,h=>by
  simp only [outC] at h
  split at h
  ·rename_i s hs
   obtain ⟨u,hu,hS⟩:=zo3_ T R hs
   match l,h with
   | [],h =>
    rcases z1w_ hS with rfl | ⟨c,vs,rfl,_,_⟩ | ⟨cs,h4,h5⟩
    ·cases h
    ·cases h
    ·obtain ⟨σ1,v,x,g1,g2,g3,g4,g5,g6⟩:=z3e_ depth w0 ok O σ tm w M s cs _ R h4 h
     obtain ⟨e,g1⟩:=z91_ g1
     subst e
     refine ⟨σ1,x,[u],g1,g2,g3,g6,⟨hu,trivial⟩,.inr ⟨Nat.succ_pos _,u,rfl,?_⟩⟩
     unfold zv_
     rw [← g5,g4]; exact h5
   | r2::l2,h =>
    cases t with
    | pr a b =>
     rcases z1w_ hS with rfl | ⟨c,vs,rfl,_,_⟩ | ⟨cs,h4,h5⟩
     ·cases h
     ·cases h
     ·obtain ⟨σ1,v,x,g1,g2,g3,g4,g5,g6⟩:=z3e_ depth w0 ok O σ tm w M s cs _ R h4 h
      obtain ⟨e,g1⟩:=z91_ g1
      subst e
      obtain ⟨σ2,y,vs,k1,k2,k3,k4,k7,k5⟩:=zj6_ T (rs:=r2::l2) (t:=b) g6.rep g1
      refine ⟨σ2,(x,y),u::vs,k1,⟨g2,k2⟩,⟨g3,k3⟩,⟨k4.rep,g6.free.append k4.free k4.sub k4.src,g6.src.append k4.src g6.sub,k4.sub.trans g6.sub⟩,⟨hu,k7⟩,.inr ⟨Nat.succ_pos _,?_⟩⟩
      rcases k5 with ⟨h9,_⟩ | ⟨_,k6⟩
      ·simp at h9
      ·refine ⟨u,vs,rfl,?_,k6⟩
       unfold zv_
       rw [← g5,g4]; exact h5
    | _=>cases h
  ·cases h

theorem ze8_ {fn:Func} {rs:List ResultVar} (h:fn.results.toList=rs) {tm:Array Value} {w:World} {vs:List Value} (hv:Rvs P tm w rs vs):(results fn tm).run P w=.ok (if h:vs.toArray.size=1 then vs.toArray[0] else .tuple vs.toArray) w:=by
 have hm:∀ (l:List ResultVar) (vs:List Value),Rvs P tm w l vs→(l.mapM (m:=Sem) fun | .tmp t=>pure (tm.getD t undef) | .cell a t=>do loadVar t (← asAddr (tm.getD a undef))).run P w=.ok vs w:=by
  intro l
  induction l with
  | nil=>intro vs hv; match vs,hv with | [],_=>rfl
  | cons r l ih =>
   intro vs hv
   match vs,hv with
   | v::vs,hv =>
    have e:=ih vs hv.2
    have hr:((fun | .tmp t=>pure (tm.getD t undef) | .cell a t=>do loadVar t (← asAddr (tm.getD a undef)):ResultVar→Sem Value) r).run P w=.ok v w:=by
     cases r with
     | tmp t=>have h1:tm.getD t undef=v:=hv.1; simp only [h1]; rfl
     | cell a t =>
      obtain ⟨ad,h1,h2⟩:=hv.1
      simp only [h1,asAddr,Sem.run_bind,Sem.run_pure,Result.andThen_ok]
      exact h2
    simp only [List.mapM_cons,Sem.run_bind,hr,Result.andThen_ok,e,Sem.run_pure]
 have hA:(fn.results.mapM (m:=Sem) fun | .tmp t=>pure (tm.getD t undef) | .cell a t=>do loadVar t (← asAddr (tm.getD a undef))).run P w=.ok vs.toArray w:=by
  rw [Array.mapM_eq_mapM_toList,h]
  have e:=hm rs vs hv
  show (Sem.bind _ _).run P w=_
  rw [show ∀ (x:Sem (List Value)) (f:List Value→Sem (Array Value)),(Sem.bind x f).run P w=(x.run P w).andThen fun a w'=>(f a).run P w' from fun x f=>Sem.run_bind (P:=P) (x:=x) (f:=f) (w:=w),e]
  rfl
 unfold results
 rw [Sem.run_bind]
 exact (congrArg (fun z=>Result.andThen z _) hA).trans rfl
end
end Go.Proofs.YtioaaljaohhjiaaGreatDoor.Ev

namespace Go.Proofs.YtioaaljaohhjiaaGreatDoor.Ev
open Go.RowKit

section
variable {P : Program} {E : Env} {w0 : World} {ok O : Nat → Prop} {σ σ' : St} {tm : Array Value} {w w' : World} {M M' : Map} {a : Act} {R0 : Type} {res : R0}

theorem z66_ {g : FuncId} {fn : Func} {c : Code} (hf : P.funcs[g]? = some fn) (hb : fn.body = some c) (hn : (fn.name == "runtime.NumGoroutine") = false) (vs : Array Value) (w : World) : (callFunc g vs).run P w = .ok (.enter g vs) w := by
 have hp:(program:Sem Program).run P w=.ok P w:=rfl
 unfold callFunc
 rw [Sem.run_bind,hp]
 simp only [Result.andThen_ok,hf,hn,hb,Option.isNone_some,Bool.false_eq_true,if_false]
 rfl

structure FnR (P:Program) (E:Env) (g:FuncId) (ts:Ty) (n:Nat) (t:Ty) (F:ts.T→Option t.T):Prop where
 ex : ∃ (fn : Func) (c : Code) (rs : List ResultVar) (LO : Oracles t.T), P.funcs[g]? = some fn ∧ fn.body = some c ∧ (fn.name == "runtime.NumGoroutine") = false ∧ fn.results.toList = rs ∧ rs.length = n ∧ argN ts ≤ fn.ntmps ∧
  CodeOK E LO (rdC E rs t) fn.ntmps c∧∀ x,evC E LO (rdC E rs t) c ⟨z3v_ ts x 0,[],[]⟩ (rdC E rs t) (fun _ _=>none)=F x

theorem ztx_ (hok:∀ k,ok k→k<w.heap.size) {ts:Ty} {x:ts.T} {vs:List Value} (h:∀ i j s,lk (z3v_ ts x i) j=some s→∃ y,i≤j∧j<i+argN ts∧vs[j-i]?=some y∧(∃ u z,s=.val u z∧∃ cs,Rd w ok u z cs∧zv_ u y cs)) (m:Nat) :
  Rep E w ok (fun _=>False) ⟨z3v_ ts x 0,[],[]⟩ (vs.toArray++Array.replicate m undef) w ⟨fun _=>⟨.un,()⟩,fun _=>0,fun _=>0,fun _=>0⟩ where
 slots:=fun s v hv=>by
  obtain ⟨y,_,h2,h3,u,z,rfl,cs,h5,h6⟩:=h 0 s v hv
  rw [Nat.sub_zero] at h3
  have hlt:=(List.getElem?_eq_some_iff.1 h3).1
  refine ⟨y,?_,z14_ (s:=.val u z) h5 (by unfold z1o_; rw [z4g_]; exact h6)⟩
  rw [Array.getElem?_append_left (by simpa using hlt)]
  simpa using h3
 rows:=fun i r hr=>by cases hr
 boxes:=fun i b hb=>by cases hb
 rr:=fun i j _ ⟨r,hr⟩=>by cases hr
 bb:=fun i j _ ⟨r,hr⟩=>by cases hr
 rb:=fun i j ⟨r,hr⟩=>by cases hr
 ownR:=fun i ⟨r,hr⟩=>by cases hr
 ownB:=fun i ⟨r,hr⟩=>by cases hr
 okB:=fun k hk=>⟨hok k hk,fun h=>h⟩
 liveS:=fun s v hv=>by
  obtain ⟨y,_,_,_,u,z,rfl,_⟩:=h 0 s v hv
  exact z1x_ u z
 liveB:=fun i b hb=>by cases hb
 kept:=Kept.refl _ _
 pin:=fun i _ ⟨r,hr⟩=>by cases hr
 pinB:=fun i _ ⟨r,hr⟩=>by cases hr

theorem zty_ {ts:Ty} {x:ts.T} {vs:List Value} (h:∀ i j s,lk (z3v_ ts x i) j=some s→∃ y,i≤j∧j<i+argN ts∧vs[j-i]?=some y∧(∃ u z,s=.val u z∧∃ cs,Rd w (Lt w) u z cs∧zv_ u y cs)) (m:Nat) :
  Rep E w (Lt w) (fun _=>False) ⟨z3v_ ts x 0,[],[]⟩ (vs.toArray++Array.replicate m undef) w ⟨fun _=>⟨.un,()⟩,fun _=>0,fun _=>0,fun _=>0⟩ where
 slots:=fun s v hv=>by
  obtain ⟨y,_,h2,h3,u,z,rfl,cs,h5,h6⟩:=h 0 s v hv
  rw [Nat.sub_zero] at h3
  have hlt:=(List.getElem?_eq_some_iff.1 h3).1
  refine ⟨y,?_,z14_ (s:=.val u z) h5 (by unfold z1o_; rw [z4g_]; exact h6)⟩
  rw [Array.getElem?_append_left (by simpa using hlt)]
  simpa using h3
 rows:=fun i r hr=>by cases hr
 boxes:=fun i b hb=>by cases hb
 rr:=fun i j _ ⟨r,hr⟩=>by cases hr
 bb:=fun i j _ ⟨r,hr⟩=>by cases hr
 rb:=fun i j ⟨r,hr⟩=>by cases hr
 ownR:=fun i ⟨r,hr⟩=>by cases hr
 ownB:=fun i ⟨r,hr⟩=>by cases hr
 okB:=fun k hk=>⟨hk,fun h=>h⟩
 liveS:=fun s v hv=>by
  obtain ⟨y,_,_,_,u,z,rfl,_⟩:=h 0 s v hv
  exact z1x_ u z
 liveB:=fun i b hb=>by cases hb
 kept:=Kept.refl _ _
 pin:=fun i _ ⟨r,hr⟩=>by cases hr
 pinB:=fun i _ ⟨r,hr⟩=>by cases hr

theorem zj7_ {tm:Array Value}:∀ {rs:List ResultVar} {vs:List Value},Rvs P tm w rs vs→vs.length=rs.length
 | [],[],_=>rfl
 | r::l,v::vs,h=>by simp [zj7_ h.2]
 | [],_::_,h=>h.elim
 | _::_,[],h=>h.elim
theorem zo4_ {n m:Nat} {t:Ty} {l:L t} {vs:List Value} (hl:vs.length=m) (hn:m=n) (h:m=0∧t=.un∨0<m∧zbq_ m t l vs) :
  zbr_ n t l (if h:vs.toArray.size=1 then vs.toArray[0] else .tuple vs.toArray):=by
 subst hn
 subst hl
 unfold zbr_
 match vs,h with
 | [],h=>exact ⟨_,rfl,rfl⟩
 | [v],.inr ⟨_,v',hv,hw⟩ =>
  cases hv
  exact hw
 | [v],.inl h=>simp at h
 | v::v2::vs,.inr ⟨_,h⟩ =>
  rw [if_neg (by simp)]
  refine ⟨_,dif_neg (by simp),by simpa using h⟩
 | v::v2::vs,.inl h=>simp at h

theorem FnR.does [Glob P] (T:zi_ P E.ti=true) (EQ:EqOK P E) {w:World} (S:SpecOK P E w (fun _=>False)) (K:z27_ P E w (fun _=>False)) (hmix:P.follows .mixedOrders=true) {g:FuncId} {ts:Ty} {n:Nat} {t:Ty} {F:ts.T→Option t.T} (H:FnR P E g ts n t F)
  {args:List SVal} {vs:List Value} (ha:Args w args vs) {x:ts.T} (hx:z1f_ ts args some=some x) {r:t.T} (hr:F x=some r):Does P g vs.toArray w (Ret w n t r):=by
 obtain ⟨fn,c,rs,LO,h1,h2,h3,h4,h5,h6,h7,h8⟩:=H.ex
 unfold Does
 rw [z66_ h1 h2 h3]
 simp only []
 obtain ⟨x',hx',hlen,hsl⟩:=zj5_ hx ha
 cases hx'
 refine calls_of_wp h1 h2 ?_
 have hrd:∀ e:Exit,(e=.normal∨e=.ret)→Then E w (Lt w) (fun _=>False) r fn.ntmps (rdC E rs t) (bodyPost P fn (fun | .returned v,w''=>Ret w n t r v w'' | _,_=>False) e):=by
  intro e he w2 ok2 O2 hc σ1 a1 w1 M1 hk R1 hn1 hd1
  unfold rdC at hk
  cases hnr:t.noRd <;> rw [hnr] at hk
  ·cases hk
  simp only [cond_true] at hk
  obtain ⟨σ2,l,vs2,g1,g2,g3,g4,g6,g5⟩:=zj6_ T R1 hk
  have hb:a1.defers=[]∧∃ v,(results fn a1.tmps).run P w1=.ok v w1∧Ret w n t r v w1:=by
   refine ⟨hd1,_,ze8_ h4 g6,l,?_,fun F=>zb3_ hnr g2,g3,g4.free.nd,fun k hk=>?_,zo4_ (zj7_ g6) h5 g5,hc.kept R1.kept⟩
   ·have:=Option.some.inj g1
    rw [← this]
   ·rcases (g4.free.own k hk).2 with h | h
    ·exact (hc.own h).elim False.elim id
    ·exact Nat.le_trans (hc.kept (.refl _ _)).size h
  rcases he with rfl | rfl
  ·exact hb
  ·exact hb
 have hev:=h8 x
 rw [hr] at hev
 refine ze7_ T EQ S K hmix h7 hev (zty_ hsl (fn.ntmps-vs.toArray.size)) (by simp only [Array.size_append,Array.size_replicate,List.size_toArray,hlen]; omega) rfl (hrd _ (.inl rfl)) (fun id=>?_) (hrd _ (.inr rfl))
 intro w2 ok2 O2 hc σ1 a1 w1 M1 hk
 cases hk
end
end Go.Proofs.YtioaaljaohhjiaaGreatDoor.Ev

namespace Go.Proofs.YtioaaljaohhjiaaGreatDoor.Ev
open Go.RowKit

section
variable {P : Program} {R0 : Type} {res : R0}

theorem zj8_:∀ (t:Ty) (l:List SVal) {R:Type} (k:t.T→Option R),z1f_ t l k=(z1f_ t l some).bind k
 | .un,[],R,k=>rfl
 | .un,_::_,R,k=>rfl
 | .pr a b,[],R,k=>rfl
 | .pr a b,s::l,R,k=>by
  simp only [z1f_]
  rw [z3r_,z3r_ s.t a s.x (fun x=>z1f_ b l fun y=>some (x,y)),Option.bind_assoc]
  congr 1
  funext x
  rw [zj8_ b l,zj8_ b l (fun y=>some (x,y)),Option.bind_assoc]
  rfl
 | .int i,l,R,k=>by match l with | []=>rfl | [s]=>exact z3r_ _ _ _ _ | _::_::_=>rfl
 | .bool,l,R,k=>by match l with | []=>rfl | [s]=>exact z3r_ _ _ _ _ | _::_::_=>rfl
 | .str,l,R,k=>by match l with | []=>rfl | [s]=>exact z3r_ _ _ _ _ | _::_::_=>rfl
 | .sl e t,l,R,k=>by match l with | []=>rfl | [s]=>exact z3r_ _ _ _ _ | _::_::_=>rfl
 | .st t,l,R,k=>by match l with | []=>rfl | [s]=>exact z3r_ _ _ _ _ | _::_::_=>rfl
 | .ptr t,l,R,k=>by match l with | []=>rfl | [s]=>exact z3r_ _ _ _ _ | _::_::_=>rfl
 | .fn g c,l,R,k=>by match l with | []=>rfl | [s]=>exact z3r_ _ _ _ _ | _::_::_=>rfl
 | .fs ids,l,R,k=>by match l with | []=>rfl | [s]=>exact z3r_ _ _ _ _ | _::_::_=>rfl
 | .rd t,l,R,k=>by match l with | []=>rfl | [s]=>rfl | _::_::_=>rfl

def FnOK (P:Program) [Glob P] (g:FuncId) (fe:FE):Prop:=(fe.n≠RON→∀ args vs w x r,Glob.ok P w→Args w args vs→z1f_ fe.ts args some=some x→fe.F x=some r→Does P g vs.toArray w (Ret w fe.n fe.t r)) ∧
 (fe.n=RON→∀ args vs w ok x r,Glob.ok P w→(∀ k,ok k→k<w.heap.size)→z1h_ w ok args vs→z1f_ fe.ts args some=some x→fe.F x=some r→Does P g vs.toArray w (RetR w ok fe.t r))
theorem FnOK.new {P:Program} [Glob P] {g:FuncId} {fe:FE} (hn:Nat.beq fe.n RON=false) (h:∀ args vs w x r,Glob.ok P w→Args w args vs→z1f_ fe.ts args some=some x→fe.F x=some r→Does P g vs.toArray w (Ret w fe.n fe.t r)):FnOK P g fe :=
 ⟨fun _=>h,fun e=>by rw [e] at hn; simp at hn⟩
theorem zj9_ [Glob P]:∀ {tab:List (Nat×FE)},(∀ e∈tab,FnOK P e.1 e.2)→∀ {g:Nat} {args:List SVal} {n:Nat} {t:Ty} {r:t.T},z8l_ tab g args=some ⟨n,t,some r⟩→∃ fe x,FnOK P g fe∧fe.n=n∧∃ e:fe.t=t,z1f_ fe.ts args some=some x∧fe.F x=some (e▸r)
 | [],_,g,args,n,t,r,h=>by cases h
 | (g',fe)::l,H,g,args,n,t,r,h=>by
  simp only [z8l_] at h
  have ih:z8l_ l g args=some ⟨n,t,some r⟩→_:=fun h=>zj9_ (tab:=l) (fun e he=>H e (List.mem_cons_of_mem _ he)) h
  cases hb:Nat.beq g' g <;> rw [hb] at h
  ·exact ih h
  ·have hg:=Nat.eq_of_beq_eq_true hb
   subst hg
   simp only [cond_true] at h
   rw [zj8_] at h
   cases hx:z1f_ fe.ts args some with
   | none=>rw [hx] at h; exact ih h
   | some x =>
    rw [hx] at h
    simp only [Option.bind_some,Option.some.injEq] at h
    have e1:fe.n=n:=congrArg CR.n h
    have e2:fe.t=t:=congrArg CR.t h
    subst e1; subst e2
    injection h with _ _ h4
    exact ⟨fe,x,H (g',fe) (List.mem_cons_self),rfl,rfl,hx,h4⟩
theorem SpecOK.of [Glob P] {ti:List TI} {tab:List (Nat×FE)} {opn:Nat→Option (FuncId×OC)} {pins:Nat→Value} {pinB:Nat→Nat} (H:∀ e∈tab,FnOK P e.1 e.2)  {w0:World} {O:Nat→Prop} (G:z3d_ P w0 O):SpecOK P (z3_ ti tab opn pins pinB) w0 O :=
 ⟨fun g args n t r hc hn w vs hkp ha=>by
   obtain ⟨fe,x,h1,h2,h3,h4,h5⟩:=zj9_ H hc
   subst h2
   subst h3
   exact h1.1 hn args vs w x r (G.now hkp) ha h4 h5,
  fun g args t r hc w ok vs hkp hk ha=>by
   obtain ⟨fe,x,h1,h2,h3,h4,h5⟩:=zj9_ H hc
   subst h3
   exact h1.2 h2 args vs w ok x r (G.now hkp) hk ha h4 h5⟩
theorem FnR.contract [Glob P] {ti:List TI} {tab:List (Nat×FE)} {opn:Nat→Option (FuncId×OC)} {pins:Nat→Value} {pinB:Nat→Nat} (T:zi_ P ti=true) (EQ:EqOK P (z3_ ti tab opn pins pinB)) (K:∀ w,z3d_ P w (fun _=>False)→z27_ P (z3_ ti tab opn pins pinB) w (fun _=>False)) (hmix:P.follows .mixedOrders=true) (S:∀ e∈tab,FnOK P e.1 e.2) {g:FuncId} {ts:Ty} {n:Nat} {t:Ty} {F:ts.T→Option t.T}
  (H:FnR P (z3_ ti tab opn pins pinB) g ts n t F) (hn:Nat.beq n RON=false):FnOK P g ⟨ts,n,t,F⟩ :=
 ⟨fun _ args vs w x r G ha hx hr=>H.does T EQ (SpecOK.of S (.new G)) (K w (.new G)) hmix ha hx hr,fun e=>by have e:n=RON:=e; rw [e] at hn; simp at hn⟩
end
end Go.Proofs.YtioaaljaohhjiaaGreatDoor.Ev

namespace Go.Proofs.YtioaaljaohhjiaaGreatDoor.Ev
open Go.RowKit

def Ty.ht:Ty→Nat
 | .st t=>t.ht+1
 | .pr a b=>max a.ht b.ht
 | _=>1
section
variable {P : Program} {E : Env} {w : World}

theorem ze9_ (T:zi_ P E.ti=true) {f:TypeId} (h0:(E.tyOf f).sz≠0) {w1:World} {okk:Nat→Prop} {x:(E.tyOf f).T} {p a c:List Value} (hr:Rd w1 okk (E.tyOf f) x a):∃ v,(part f (p++a++c).toArray p.length).run P w=.ok v w∧zv_ (E.tyOf f) v a:=by
 obtain ⟨ti,k1,k2,k3⟩:=z2k_ T h0
 obtain ⟨m1,m2,_⟩:=z76_ T k1 k3 w
 rw [k2] at m1 m2
 have hl:=Rd.len hr
 unfold part
 cases hst:(E.tyOf f).isSt with
 | true =>
  rw [hst] at m1
  refine ⟨.agg a.toArray,?_,.inl ⟨hst,rfl⟩⟩
  simp only [Sem.run_bind,m1,Result.andThen_ok,if_true,m2,Sem.run_pure]
  congr 2
  rw [← hl]
  apply Array.ext'
  simp
 | false =>
  rw [hst] at m1
  have h1:=zmf_ T h0 hst
  rw [h1] at hl
  match a,hl with
  | [v],_ =>
   refine ⟨v,?_,.inr ⟨hst,rfl⟩⟩
   simp only [Sem.run_bind,m1,Result.andThen_ok,Bool.false_eq_true,if_false]
   have:(p++[v]++c).toArray[p.length]?=some v:=by simp
   rw [this]
   rfl

def EqAt (P:Program) (E:Env) (d:Nat):Prop:=∀ (t:TypeId),(E.tyOf t).flat=true→(E.tyOf t).ht≤d→∀ (w:World) (x y:(E.tyOf t).T) (cs ds:List Value) (ok ok':Nat→Prop) (vx vy:Value),
 Rd w ok (E.tyOf t) x cs→Rd w ok' (E.tyOf t) y ds→zv_ (E.tyOf t) vx cs→zv_ (E.tyOf t) vy ds→∃ b,(Op.equalIn d t vx vy).run P w=.ok b w∧(b=true↔x=y)

theorem zo5_ (T : zi_ P E.ti = true) {d : Nat} (H : EqAt P E d) {w : World} {ok ok' : Nat → Prop} : ∀ (fl : List Field) (n : Nat) (u : Ty), z2t_ E.ti (fl.map fun f => (f.type, f.offset)) n = some u → u.flat = true → u.ht ≤ d → (∀ f ∈ fl, f.name ≠ "_") →
  ∀ (x y:u.T) (p p' cs ds:List Value),p.length=n→p'.length=n→Rd w ok u x cs→Rd w ok' u y ds→∃ b,(Op.eqFields d (p++cs).toArray (p'++ds).toArray fl).run P w=.ok b w∧(b=true↔x=y)
 | [],n,u,h,_,_,_,_,_,_,_,_,_,_,_,_,_=>by cases h
 | [f],n,u,h,hf,hh,hnm,x,y,p,p',cs,ds,hp,hp',hx,hy=>by
  simp only [List.map_cons,List.map_nil,z2t_] at h
  cases hb:(Nat.beq f.offset n&&!Nat.beq (tyAt E.ti f.type).sz 0) <;> rw [hb] at h
  ·cases h
  ·cases h
   simp only [Bool.and_eq_true,Bool.not_eq_true'] at hb
   have ho:=Nat.eq_of_beq_eq_true hb.1
   have h0:(E.tyOf f.type).sz≠0:=z2j_ hb.2
   obtain ⟨v1,e1,e2⟩:=ze9_ (w:=w) (p:=p) (c:=[]) T h0 hx
   obtain ⟨v2,e3,e4⟩:=ze9_ (w:=w) (p:=p') (c:=[]) T h0 hy
   rw [List.append_nil,hp,← ho] at e1
   rw [List.append_nil,hp',← ho] at e3
   obtain ⟨b,e5,e6⟩:=H f.type hf hh w x y cs ds ok ok' v1 v2 hx hy e2 e4
   refine ⟨b,?_,e6⟩
   simp only [Op.eqFields]
   rw [if_pos (hnm f (by simp))]
   simp only [Sem.run_bind,e1,Result.andThen_ok,e3,e5]
   cases b <;> simp
 | f::f2::fl,n,u,h,hf,hh,hnm,x,y,p,p',cs,ds,hp,hp',hx,hy=>by
  simp only [List.map_cons,z2t_] at h
  cases hb:(Nat.beq f.offset n&&!Nat.beq (tyAt E.ti f.type).sz 0) <;> rw [hb] at h
  ·cases h
  ·simp only [cond_true] at h
   split at h
   ·rename_i u' hu
    cases h
    simp only [Bool.and_eq_true,Bool.not_eq_true'] at hb
    simp only [Ty.flat,Bool.and_eq_true] at hf
    simp only [Ty.ht] at hh
    have ho:=Nat.eq_of_beq_eq_true hb.1
    have h0:(E.tyOf f.type).sz≠0:=z2j_ hb.2
    obtain ⟨c1,c2,rfl,x1,x2⟩:=hx
    obtain ⟨d1,d2,rfl,y1,y2⟩:=hy
    obtain ⟨v1,e1,e2⟩:=ze9_ (w:=w) (p:=p) (c:=c2) T h0 x1
    obtain ⟨v2,e3,e4⟩:=ze9_ (w:=w) (p:=p') (c:=d2) T h0 y1
    rw [hp,← ho,List.append_assoc] at e1
    rw [hp',← ho,List.append_assoc] at e3
    obtain ⟨b,e5,e6⟩:=H f.type hf.1 (Nat.le_trans (Nat.le_max_left _ _) hh) w x.1 y.1 c1 d1 ok ok' v1 v2 x1 y1 e2 e4
    have l1:(p++c1).length=n+(tyAt E.ti f.type).sz:=by rw [List.length_append,hp,Rd.len x1]
    have l2:(p'++d1).length=n+(tyAt E.ti f.type).sz:=by rw [List.length_append,hp',Rd.len y1]
    obtain ⟨b2,g1,g2⟩:=zo5_ T H (f2::fl) (n+(tyAt E.ti f.type).sz) u' hu hf.2 (Nat.le_trans (Nat.le_max_right _ _) hh) (fun q hq=>hnm q (by simp only [List.mem_cons] at hq ⊢; exact .inr hq)) x.2 y.2 (p++c1) (p'++d1) c2 d2 l1 l2 x2 y2
    rw [List.append_assoc,List.append_assoc] at g1
    refine ⟨b&&b2,?_,?_⟩
    ·rw [Op.eqFields,if_pos (hnm f (by simp))]
     simp only [Sem.run_bind,e1,Result.andThen_ok,e3,e5]
     cases b with
     | false=>simp
     | true=>simp only [Bool.not_true,Bool.false_eq_true,if_false,Bool.true_and]; exact g1
    ·rw [Bool.and_eq_true,e6,g2]
     constructor
     ·rintro ⟨h1,h2⟩; exact Prod.ext h1 h2
     ·intro h; rw [h]; exact ⟨rfl,rfl⟩
   ·cases h

theorem ztz_ {t:Ty} (h:t.flat=true):0<t.ht:=by
 induction t with
 | pr a b iha ihb=>simp only [Ty.flat,Bool.and_eq_true] at h; have:=iha h.1; simp only [Ty.ht]; omega
 | st t ih=>simp only [Ty.ht]; omega
 | _=>simp [Ty.ht]

theorem zo6_ (T:zi_ P E.ti=true):∀ d,EqAt P E d
 | 0=>fun t hf hh=>by have:=ztz_ hf; omega
 | d+1=>by
  intro t hf hh w x y cs ds ok ok' vx vy hx hy wx wy
  obtain ⟨ti,k1,k2,k3⟩:=z2k_ T (zbl_ hf)
  obtain ⟨sh,ty,b⟩:=ti
  dsimp only at k2 k3
  have hsh:=(z1k_ T k1 k3).2
  have key:∀ (τ:Ty) (e:ty=τ) (hτ:E.tyOf t=τ),τ.flat=true→τ.ht≤d+1→∀ (x y:τ.T),Rd w ok τ x cs→Rd w ok' τ y ds→zv_ τ vx cs→zv_ τ vy ds→∃ b,(Op.equalIn (d+1) t vx vy).run P w=.ok b w∧(b=true↔x=y):=by
   intro τ e hτ hf hh x y hx hy wx wy
   unfold shOK at hsh
   split at hsh <;> rename_i g1 g2 g3
   ·have g3':ty=_:=g3
    rw [g3'] at e
    subst e
    rw [zdb_ hx wx,zdb_ hy wy]
    exact ⟨_,run_equalIn_int (P:=P) w d t _ _ _ _ g2,by simp⟩
   ·have g3':ty=_:=g3
    rw [g3'] at e
    subst e
    rw [zbk_ hx wx,zbk_ hy wy]
    exact ⟨_,run_equalIn_bool' (P:=P) w d t _ _ g2,by simp⟩
   ·have g3':ty=_:=g3
    rw [g3'] at e
    subst e
    rw [z8u_ hx wx,z8u_ hy wy]
    refine ⟨_,run_equalIn_string (P:=P) w d t _ _ g2,?_⟩
    simp
   ·have g3':ty=_:=g3
    rw [g3'] at e
    subst e
    cases hf
   ·have g3':ty=_:=g3
    rw [g3'] at e
    subst e
    cases hf
   ·have g3':ty=_:=g3
    rw [g3'] at e
    subst e
    cases hf
   ·have g3':ty=_:=g3
    rw [g3'] at e
    subst e
    rename_i fs fields u
    have g1':sh=.st fs:=g1
    subst g1'
    subst g3'
    obtain ⟨fields',u',h1,h2,h3,h4,h5⟩:=z8s_ T k1
    cases h3
    obtain ⟨h6,h7,h8⟩:=h5 hf
    have hfo:P.fieldsOf t=fields':=by unfold Program.fieldsOf; rw [h1]
    rcases wx with ⟨_,rfl⟩ | ⟨h,_⟩
    ·rcases wy with ⟨_,rfl⟩ | ⟨h,_⟩
     ·rw [run_equalIn_struct w d t _ _ (by rw [h1,hfo]) h6,hfo]
      simp only [Ty.ht] at hh
      have:=zo5_ T (zo6_ T d) (w:=w) fields'.toList 0 u (by rw [h2]; exact h4) hf (by omega) h8 x y [] [] cs ds rfl rfl hx hy
      simpa using this
     ·cases h
    ·cases h
   ·cases hsh
  exact key _ k2 rfl hf hh x y hx hy wx wy

def htOK (ti:List TI):Bool:=ti.all fun i=>Nat.ble i.ty.ht 9999
theorem EqOK.of (T:zi_ P E.ti=true) (H:htOK E.ti=true):EqOK P E:=by
 intro t fs u b hf ht w x y cs ds ok ok' hx hy
 have htyof:E.tyOf t=.st u:=by simp [Env.tyOf,ht]
 have hht:(Ty.st u).ht≤10000:=by
  simp only [htOK,List.all_eq_true] at H
  have:=Nat.le_of_ble_eq_true (H _ (List.mem_of_getElem? ht))
  have h2:(Ty.st u).ht≤9999:=this
  omega
 have key:∀ (τ:Ty) (e:E.tyOf t=τ) (hf:τ.flat=true) (hh:τ.ht≤10000) (x y:τ.T),Rd w ok τ x cs→Rd w ok' τ y ds→zv_ τ (.agg cs.toArray) cs→zv_ τ (.agg ds.toArray) ds→∃ b,(Op.equalIn 10000 t (.agg cs.toArray) (.agg ds.toArray)).run P w=.ok b w∧(b=true↔x=y):=by
  intro τ e
  subst e
  intro hf hh x y hx hy w1 w2
  exact zo6_ T 10000 t hf hh w x y cs ds ok ok' _ _ hx hy w1 w2
 obtain ⟨b,h1,h2⟩:=key (.st u) htyof hf hht x y hx hy (.inl ⟨rfl,rfl⟩) (.inl ⟨rfl,rfl⟩)
 rw [h1]
 congr 1
 rw [Bool.eq_iff_iff,h2]
 simp
end
end Go.Proofs.YtioaaljaohhjiaaGreatDoor.Ev

namespace Go.Proofs.YtioaaljaohhjiaaGreatDoor.Ev
open Go.RowKit

theorem z4n_ (f fb:Nat→Nat) (s:SV):(s.ren2 f fb).roots=s.roots.map f∧(s.ren2 f fb).boxes=s.boxes.map fb∧(s.ren2 f fb).isSt=s.isSt∧(s.ren2 f fb).count=s.count∧(s.ren2 f fb).isCh=s.isCh:=by
 induction s with
 | st s ih=>exact ⟨ih.1,ih.2.1,rfl,rfl,rfl⟩
 | pr a b iha ihb=>exact ⟨by simp [SV.ren2,SV.roots,iha.1,ihb.1],by simp [SV.ren2,SV.boxes,iha.2.1,ihb.2.1],rfl,rfl,rfl⟩
 | clo g s ih=>exact ⟨ih.1,ih.2.1,rfl,rfl,rfl⟩
 | tup s ih=>exact ⟨ih.1,ih.2.1,rfl,rfl,rfl⟩
 | cns a b iha ihb=>exact ⟨by simp [SV.ren2,SV.roots,iha.1,ihb.1],by simp [SV.ren2,SV.boxes,iha.2.1,ihb.2.1],rfl,by simp [SV.ren2,SV.count,ihb.2.2.2.1],rfl⟩
 | val t x=>cases t <;> exact ⟨rfl,rfl,rfl,rfl,rfl⟩
 | _=>exact ⟨rfl,rfl,rfl,rfl,rfl⟩

section
variable {P : Program} {E E' : Env} {w0 w1 : World} {ok ok1 O : Nat → Prop} {σ σ' : St} {tm tm' : Array Value} {w w' : World} {M M' : Map} {a : Act}

structure Renm2 (M M':Map) (f fb:Nat→Nat) (I B:Nat→Prop):Prop where
 loc:∀ i,I i→M'.loc (f i)=M.loc i
 blk:∀ i,B i→M'.blk (fb i)=M.blk i∧M'.bn (fb i)=M.bn i∧M'.bw (fb i)=M.bw i
theorem z2c_ {f fb:Nat→Nat} {I B:Nat→Prop} (H:Renm2 M M' f fb I B):∀ {s:SV} {cs:List Value},(∀ i∈s.roots,I i)→(∀ i∈s.boxes,B i)→RepV w0 ok M s cs→RepV w0 ok M' (s.ren2 f fb) cs
 | .val t x,cs,_,_,hs=>by cases t <;> exact hs
 | .ref i p,cs,h,_,hs=>by
  have e:=H.loc i (h i (by simp [SV.roots]))
  simp only [SV.ren2,RepV] at hs ⊢
  rw [e]; exact hs
 | .vw i lo n,cs,h,_,hs=>by
  have e:=H.loc i (h i (by simp [SV.roots]))
  simp only [SV.ren2,RepV] at hs ⊢
  rw [e]; exact hs
 | .ls i,cs,_,h,hs=>by
  obtain ⟨e1,e2,_⟩:=H.blk i (h i (by simp [SV.boxes]))
  simp only [SV.ren2,RepV] at hs ⊢
  rw [e1,e2]; exact hs
 | .st s,cs,h,hb,hs=>z2c_ H (s:=s) h hb hs
 | .pr a b,cs,h,hb,hs=>by
  obtain ⟨c1,c2,rfl,h1,h2⟩:=hs
  exact ⟨c1,c2,rfl,z2c_ H (fun i hi=>h i (by simp [SV.roots,hi])) (fun i hi=>hb i (by simp [SV.boxes,hi])) h1,z2c_ H (fun i hi=>h i (by simp [SV.roots,hi])) (fun i hi=>hb i (by simp [SV.boxes,hi])) h2⟩
 | .bp i p o,cs,_,h,hs=>by
  obtain ⟨e1,_,_⟩:=H.blk i (h i (by simp [SV.boxes]))
  simp only [SV.ren2,RepV] at hs ⊢
  rw [e1]; exact hs
 | .ep i p n f' o,cs,h,_,hs=>by
  have e:=H.loc i (h i (by simp [SV.roots]))
  simp only [SV.ren2,RepV] at hs ⊢
  rw [e]; exact hs
 | .lp i n,cs,_,h,hs=>by
  obtain ⟨e1,e2,e3⟩:=H.blk i (h i (by simp [SV.boxes]))
  simp only [SV.ren2,RepV] at hs ⊢
  rw [e1,e2,e3]; exact hs
 | .clo g c,cs,h,hb,hs=>by
  obtain ⟨caps,rfl,h1⟩:=hs
  exact ⟨caps,rfl,z2c_ H (s:=c) h hb h1⟩
 | .no,cs,_,_,hs=>hs
 | .un,cs,_,_,hs=>hs
 | .tup _,_,_,_,h=>h.elim
 | .cns _ _,_,_,_,h=>h.elim
 | .nl,_,_,_,h=>h.elim
theorem zo7_ {f fb:Nat→Nat} {I B:Nat→Prop} (H:Renm2 M M' f fb I B) {s:SV}:∀ {cs:List Value},(∀ i∈s.roots,I i)→(∀ i∈s.boxes,B i)→RepB w0 ok M s cs→RepB w0 ok M' (s.ren2 f fb) cs:=by
 induction s with
 | cns a b iha ihb =>
  intro cs h hb hs
  obtain ⟨c1,c2,rfl,h1,h2⟩:=hs
  exact ⟨c1,c2,rfl,z2c_ H (fun i hi=>h i (by simp [SV.roots,hi])) (fun i hi=>hb i (by simp [SV.boxes,hi])) h1,ihb (fun i hi=>h i (by simp [SV.roots,hi])) (fun i hi=>hb i (by simp [SV.boxes,hi])) h2⟩
 | nl=>intro cs _ _ hs; exact hs
 | val t x=>intro cs h hb hs; exact zn_ (z2c_ H (s:=.val t x) h hb hs)
 | ref i p=>intro cs h hb hs; exact zn_ (z2c_ H (s:=.ref i p) h hb hs)
 | vw i lo n=>intro cs h hb hs; exact zn_ (z2c_ H (s:=.vw i lo n) h hb hs)
 | ls i=>intro cs h hb hs; exact zn_ (z2c_ H (s:=.ls i) h hb hs)
 | st s _=>intro cs h hb hs; exact zn_ (z2c_ H (s:=.st s) h hb hs)
 | pr a b _ _=>intro cs h hb hs; exact zn_ (z2c_ H (s:=.pr a b) h hb hs)
 | bp i p o=>intro cs h hb hs; exact zn_ (z2c_ H (s:=.bp i p o) h hb hs)
 | ep i p n f o=>intro cs h hb hs; exact zn_ (z2c_ H (s:=.ep i p n f o) h hb hs)
 | lp i n=>intro cs h hb hs; exact zn_ (z2c_ H (s:=.lp i n) h hb hs)
 | clo g s _=>intro cs h hb hs; exact zn_ (z2c_ H (s:=.clo g s) h hb hs)
 | no=>intro cs _ _ hs; exact hs
 | un=>intro cs _ _ hs; exact hs
 | tup s _=>intro cs _ _ hs; exact hs.elim
theorem zu0_ {f fb:Nat→Nat} {I B:Nat→Prop} (H:Renm2 M M' f fb I B) {s:SV}:∀ {vs:List Value},(∀ i∈s.roots,I i)→(∀ i∈s.boxes,B i)→RepT w0 ok M s vs→RepT w0 ok M' (s.ren2 f fb) vs:=by
 induction s with
 | cns a b iha ihb =>
  intro vs h hb hs
  obtain ⟨v,vs',rfl,⟨cs,h1,h3⟩,h2⟩:=hs
  exact ⟨v,vs',rfl,⟨cs,z2c_ H (fun i hi=>h i (by simp [SV.roots,hi])) (fun i hi=>hb i (by simp [SV.boxes,hi])) h1,by rw [(z4n_ f fb a).2.2.1]; exact h3⟩,ihb (fun i hi=>h i (by simp [SV.roots,hi])) (fun i hi=>hb i (by simp [SV.boxes,hi])) h2⟩
 | nl=>intro vs _ _ hs; exact hs
 | _=>intro vs _ _ hs; exact hs.elim
theorem zo8_ {f fb:Nat→Nat} {I B:Nat→Prop} (H:Renm2 M M' f fb I B) {s:SV} {v:Value} (h:∀ i∈s.roots,I i) (hb:∀ i∈s.boxes,B i) (hs:RepS w0 ok M s v):RepS w0 ok M' (s.ren2 f fb) v:=by
 rcases z1w_ hs with rfl | ⟨c,vs,rfl,rfl,h1⟩ | ⟨cs,h1,h2⟩
 ·trivial
 ·exact ⟨vs,rfl,zu0_ H h hb h1⟩
 ·exact z14_ (z2c_ H h hb h1) (by unfold z1o_; rw [(z4n_ f fb s).2.2.1]; exact h2)

def zea_ (x y:Loc):Prop:=∃ e t,∃ l l':L (.sl e t),x=⟨.sl e t,l⟩∧y=⟨.sl e t,l'⟩∧l'.1=l.1∧l'.2.1=l.2.1∧l'.2.2.length=l.2.2.length
structure Near (M M':Map) (gr dp gb db:Nat→Bool) (S:SV):Prop where
 loc:∀ i∈S.roots,gr i=false→(dp i=false→M'.loc i=M.loc i)∧zea_ (M.loc i) (M'.loc i)
 blk:∀ i∈S.boxes,gb i=false→M'.blk i=M.blk i∧(db i=false→M'.bn i=M.bn i∧M'.bw i=M.bw i)
 gd:∀ i,gb i=true→db i=true
theorem Near.mono {gr dp gb db:Nat→Bool} {s s':SV} (h:Near M M' gr dp gb db s) (h1:∀ i∈s'.roots,i∈s.roots) (h2:∀ i∈s'.boxes,i∈s.boxes):Near M M' gr dp gb db s' :=
 ⟨fun i hi=>h.loc i (h1 i hi),fun i hi=>h.blk i (h2 i hi),h.gd⟩
theorem zo9_ {p:List Step} {e:TypeId} {t:Ty} {l:L (.sl e t)} {y:Loc} (h:subL (.sl e t) l p=some y) (hp:Nat.blt 0 (ixs p)=false):p=[]:=by
 match p with
 | []=>rfl
 | .ix n::p =>
  have:Nat.blt 0 (ixs (.ix n::p))=true:=Nat.ble_eq_true_of_le (by simp [ixs])
  rw [this] at hp; cases hp
 | .f _::_=>cases h
 | .u::_=>cases h
theorem z67_ {s:SV} {cs:List Value} (hw:Wk s .un) (h:RepV w0 ok M s cs):RepV w0 ok M' .un cs :=
 have q:RepV w0 ok M .un cs:=hw.V h
 q
theorem z2d_ {gr dp gb db:Nat→Bool}:∀ {s:SV} {cs:List Value},Near M M' gr dp gb db s→RepV w0 ok M s cs→RepV w0 ok M' (s.cutR gr dp gb db) cs
 | .val t x,cs,_,hs=>by cases t <;> exact hs
 | .ref i p,cs,h,hs=>by
  obtain ⟨h1,_,_⟩:=h
  have h1:=h1 i (by simp [SV.roots])
  simp only [SV.cutR]
  cases hg:gr i with
  | true=>simp only [Bool.true_or,cond_true]; exact z67_ (Wk.ref i p) hs
  | false =>
   obtain ⟨e1,e,t,l,l',e2,e3,e4,e5,e6⟩:=h1 hg
   cases hd:dp i with
   | false=>simp only [Bool.false_and,Bool.or_false,cond_false]; simp only [RepV] at hs ⊢; rw [e1 hd]; exact hs
   | true =>
    cases hp:Nat.blt 0 (ixs p) with
    | true=>simp only [Bool.false_or,Bool.and_self,cond_true]; exact z67_ (Wk.ref i p) hs
    | false =>
     simp only [Bool.and_false,Bool.or_false,cond_false]
     obtain ⟨e',t',q,h2,rfl⟩:=hs
     rw [e2] at h2
     have:=zo9_ h2 hp
     subst this
     cases h2
     exact ⟨e,t,l',by rw [e3]; rfl,by simp [z6_,e4,e5,e6]⟩
 | .vw i lo n,cs,h,hs=>by
  obtain ⟨h1,_,_⟩:=h
  have h1:=h1 i (by simp [SV.roots])
  simp only [SV.cutR]
  cases hg:gr i with
  | true=>simp only [cond_true]; exact z67_ (Wk.vw i lo n) hs
  | false =>
   simp only [cond_false]
   obtain ⟨e1,e,t,l,l',e2,e3,e4,e5,e6⟩:=h1 hg
   obtain ⟨e',t',q,h2,h3,A,c,rfl,h4,h5⟩:=hs
   rw [e2] at h2
   cases h2
   exact ⟨e,t,l',e3,by rw [e6]; exact h3,A,c,rfl,by rw [e5]; exact h4,by rw [e4]; exact h5⟩
 | .ls i,cs,h,hs=>by
  obtain ⟨_,h1,gd⟩:=h
  have h1:=h1 i (by simp [SV.boxes])
  simp only [SV.cutR]
  cases hd:db i with
  | true=>simp only [cond_true]; exact z67_ (Wk.ls i) hs
  | false =>
   simp only [cond_false]
   cases hg:gb i with
   | true=>rw [gd i hg] at hd; cases hd
   | false =>
    obtain ⟨e1,e2⟩:=h1 hg
    simp only [RepV] at hs ⊢
    rw [e1,(e2 hd).1]; exact hs
 | .st s,cs,h,hs=>z2d_ (s:=s) (h.mono (fun _ hi=>hi) (fun _ hi=>hi)) hs
 | .pr a b,cs,h,hs=>by
  obtain ⟨c1,c2,rfl,h1,h2⟩:=hs
  exact ⟨c1,c2,rfl,z2d_ (h.mono (fun i hi=>by simp [SV.roots,hi]) (fun i hi=>by simp [SV.boxes,hi])) h1,z2d_ (h.mono (fun i hi=>by simp [SV.roots,hi]) (fun i hi=>by simp [SV.boxes,hi])) h2⟩
 | .bp i p o,cs,h,hs=>by
  obtain ⟨_,h1,gd⟩:=h
  have h1:=h1 i (by simp [SV.boxes])
  simp only [SV.cutR]
  cases hg:gb i with
  | true=>simp only [cond_true]; exact z67_ (Wk.bp i p o) hs
  | false=>simp only [cond_false]; simp only [RepV] at hs ⊢; rw [(h1 hg).1]; exact hs
 | .ep i p n f o,cs,h,hs=>by
  obtain ⟨h1,_,_⟩:=h
  have h1:=h1 i (by simp [SV.roots])
  simp only [SV.cutR]
  cases hg:gr i with
  | true=>simp only [Bool.true_or,cond_true]; exact z67_ (Wk.ep i p n f o) hs
  | false =>
   obtain ⟨e1,e,t,l,l',e2,e3,e4,e5,e6⟩:=h1 hg
   cases hd:dp i with
   | false=>simp only [Bool.false_and,Bool.or_false,cond_false]; simp only [RepV] at hs ⊢; rw [e1 hd]; exact hs
   | true =>
    cases hp:Nat.blt 0 (ixs p) with
    | true=>simp only [Bool.false_or,Bool.and_self,cond_true]; exact z67_ (Wk.ep i p n f o) hs
    | false =>
     simp only [Bool.and_false,Bool.or_false,cond_false]
     obtain ⟨e',t',q,g,h2,h3,h4,rfl⟩:=hs
     rw [e2] at h2
     have:=zo9_ h2 hp
     subst this
     cases h2
     exact ⟨e,t,l',g,by rw [e3]; rfl,by rw [e4]; exact h3,by rw [e6]; exact h4,rfl⟩
 | .lp i n,cs,h,hs=>by
  obtain ⟨_,h1,gd⟩:=h
  have h1:=h1 i (by simp [SV.boxes])
  simp only [SV.cutR]
  cases hd:db i with
  | true=>simp only [cond_true]; exact z67_ (Wk.lp i n) hs
  | false =>
   simp only [cond_false]
   cases hg:gb i with
   | true=>rw [gd i hg] at hd; cases hd
   | false =>
    obtain ⟨e1,e2⟩:=h1 hg
    simp only [RepV] at hs ⊢
    rw [e1,(e2 hd).1,(e2 hd).2]; exact hs
 | .clo g c,cs,h,hs=>by
  obtain ⟨caps,rfl,h1⟩:=hs
  exact ⟨caps,rfl,z2d_ (s:=c) (h.mono (fun _ hi=>hi) (fun _ hi=>hi)) h1⟩
 | .no,cs,_,hs=>hs
 | .un,cs,_,hs=>hs
 | .tup _,_,_,h=>h.elim
 | .cns _ _,_,_,h=>h.elim
 | .nl,_,_,h=>h.elim
end
end Go.Proofs.YtioaaljaohhjiaaGreatDoor.Ev

namespace Go.Proofs.YtioaaljaohhjiaaGreatDoor.Ev
open Go.RowKit

theorem z30_ {l:List Nat} {i:Nat}:has l i=true↔i∈l:=by
 unfold has
 rw [List.any_eq_true]
 constructor
 ·rintro ⟨j,hj,h⟩; exact Nat.eq_of_beq_eq_true h▸hj
 ·intro h; exact ⟨i,h,by simp⟩
theorem zu1_ {l:List Nat} {i:Nat}:has l i=false↔i∉l:=by
 rw [← z30_]; simp
theorem zc0_:∀ {l:List Nat},z2q_ l=true→l.Nodup
 | [],_=>List.nodup_nil
 | i::l,h=>by
  simp only [z2q_,Bool.and_eq_true] at h
  refine List.nodup_cons.2 ⟨fun hm=>?_,zc0_ h.2⟩
  have:l.any (Nat.beq i)=true:=List.any_eq_true.2 ⟨i,hm,by simp⟩
  rw [this] at h
  simp at h
theorem z4o_:∀ {l:List Nat} {k i:Nat},l[k]?=some i→nthD l k=i
 | [],k,i,h=>by simp at h
 | j::l,0,i,h=>by simpa [nthD] using h
 | j::l,k+1,i,h=>by simp only [List.getElem?_cons_succ] at h; exact z4o_ (l:=l) (k:=k) h
theorem zoa_ {l:List Nat} {k:Nat} (h:k<l.length):∃ i,l[k]?=some i∧nthD l k=i∧i∈l:=by
 have:=List.getElem?_eq_getElem h
 exact ⟨_,this,z4o_ this,List.getElem_mem h⟩
theorem zeb_ {l:List Nat} (h:l.Nodup) {k m i:Nat} (h1:l[k]?=some i) (h2:l[m]?=some i):k=m:=by
 obtain ⟨k1,e1⟩:=List.getElem?_eq_some_iff.1 h1
 obtain ⟨k2,e2⟩:=List.getElem?_eq_some_iff.1 h2
 exact ziz_ h k1 k2 (e1.trans e2.symm)
theorem zja_ {ids:List Nat} {i:Nat} (h:i∈ids):∃ k,z16_ ids i=PIN+k∧ids[k]?=some i:=by
 obtain ⟨k,h1,h2⟩:=ze0_ ids i 0 h
 exact ⟨k,by unfold z16_; rw [h1,Nat.zero_add],h2⟩
theorem zec_ {ids:List Nat} {i:Nat} (h:i∈ids):nthD ids (z16_ ids i-PIN)=i:=by
 obtain ⟨k,h1,h2⟩:=zja_ h
 rw [h1,Nat.add_sub_cancel_left]
 exact z4o_ h2
theorem z31_ {α:Type}:∀ {l:List (Nat×α)} {j:Nat} {r:α},(l.map (·.1)).Nodup→(j,r)∈l→lk l j=some r
 | [],j,r,_,h=>by cases h
 | (i,x)::l,j,r,hn,h=>by
  rw [zm_]
  simp only [List.map_cons,List.nodup_cons] at hn
  rcases List.mem_cons.1 h with e | h
  ·cases e; rw [if_pos rfl]
  ·rw [if_neg (fun e=>hn.1 (List.mem_map.2 ⟨(j,r),h,e.symm⟩))]
   exact z31_ hn.2 h
theorem z3j_ {α:Type}:∀ {l:List (Nat×α)} {j:Nat},j∈l.map (·.1)→∃ r,lk l j=some r
 | [],j,h=>by cases h
 | (i,x)::l,j,h=>by
  rw [zm_]
  by_cases e:i=j
  ·exact ⟨x,by rw [if_pos e]⟩
  ·rw [if_neg e]
   simp only [List.map_cons,List.mem_cons] at h
   exact z3j_ (h.resolve_left (fun q=>e q.symm))
theorem z93_ {α:Type} (ids:List Nat):∀ (l:List (Nat×α)) (i:Nat),lk (sans ids l) i=if i∈ids then none else lk l i
 | [],i=>by simp [sans,lk]
 | (j,x)::l,i=>by
  simp only [sans]
  cases h:has ids j with
  | true =>
   have:=z30_.1 h
   simp only [cond_true]
   rw [z93_ ids l i,zm_]
   by_cases e:j=i
   ·subst e; rw [if_pos this,if_pos this]
   ·rw [if_neg e]
  | false =>
   have:=zu1_.1 h
   simp only [cond_false]
   rw [zm_,zm_,z93_ ids l i]
   by_cases e:j=i
   ·subst e; rw [if_pos rfl,if_neg this,if_pos rfl]
   ·rw [if_neg e,if_neg e]
theorem zed_ {f:Nat→Nat}:∀ {l:List (Nat×Row)} {i:Nat} {r:Row},(i,r)∈z5p_ f l↔∃ j,f j=i∧(j,r)∈l
 | [],i,r=>by simp [z5p_]
 | (k,x)::l,i,r=>by
  simp only [z5p_,List.mem_cons,zed_ (l:=l),Prod.mk.injEq]
  constructor
  ·rintro (⟨rfl,rfl⟩ | ⟨j,h1,h2⟩)
   ·exact ⟨k,rfl,.inl ⟨rfl,rfl⟩⟩
   ·exact ⟨j,h1,.inr h2⟩
  ·rintro ⟨j,h1,⟨rfl,rfl⟩ | h2⟩
   ·exact .inl ⟨h1.symm,rfl⟩
   ·exact .inr ⟨j,h1,h2⟩
theorem zee_ {f fb:Nat→Nat}:∀ {l:List (Nat×Bx)} {i:Nat} {b:Bx},(i,b)∈reBx f fb l↔∃ j b0,fb j=i∧(j,b0)∈l∧b=⟨b0.ty,b0.c.ren2 f fb⟩
 | [],i,r=>by simp [reBx]
 | (k,x)::l,i,r=>by
  simp only [reBx,List.mem_cons,zee_ (l:=l),Prod.mk.injEq]
  constructor
  ·rintro (⟨rfl,rfl⟩ | ⟨j,b0,h1,h2,h3⟩)
   ·exact ⟨k,x,rfl,.inl ⟨rfl,rfl⟩,rfl⟩
   ·exact ⟨j,b0,h1,.inr h2,h3⟩
  ·rintro ⟨j,b0,h1,⟨rfl,rfl⟩ | h2,h3⟩
   ·exact .inl ⟨h1.symm,h3⟩
   ·exact .inr ⟨j,b0,h1,h2,h3⟩
theorem zob_ (f:Nat→Nat):∀ l:List (Nat×Row),(z5p_ f l).map (·.1)=(l.map (·.1)).map f
 | []=>rfl
 | (k,x)::l=>by simp [z5p_,zob_ f l]
theorem zoc_ (f fb:Nat→Nat):∀ l:List (Nat×Bx),(reBx f fb l).map (·.1)=(l.map (·.1)).map fb
 | []=>rfl
 | (k,x)::l=>by simp [reBx,zoc_ f fb l]
theorem zef_:∀ {l:List SV} {n j:Nat} {s:SV},lk (z4x_ l n) j=some s→∃ k,j=n+k∧l[k]?=some s
 | [],n,j,s,h=>by cases h
 | x::l,n,j,s,h=>by
  simp only [z4x_,zm_] at h
  split at h
  ·rename_i e; cases h; exact ⟨0,by omega,rfl⟩
  ·obtain ⟨k,h1,h2⟩:=zef_ h
   exact ⟨k+1,by omega,by simpa using h2⟩
theorem zod_ {rows:List (Nat×Row)}:∀ {ids:List Nat} {n j:Nat} {r:Row},lk (z3p_ rows ids n) j=some r→∃ k i,j=n+k∧ids[k]?=some i∧lk rows i=some r
 | [],n,j,r,h=>by cases h
 | i::l,n,j,r,h=>by
  have ih:lk (z3p_ rows l (n+1)) j=some r→∃ k i',j=n+k∧(i::l)[k]?=some i'∧lk rows i'=some r:=fun h=>by
   obtain ⟨k,i',h1,h2,h3⟩:=zod_ h
   exact ⟨k+1,i',by omega,by simpa using h2,h3⟩
  simp only [z3p_] at h
  split at h
  ·rename_i x hx
   rw [zm_] at h
   split at h
   ·rename_i e; cases h; exact ⟨0,i,by omega,rfl,hx⟩
   ·exact ih h
  ·exact ih h
theorem zoe_ {rows:List (Nat×Row)}:∀ {ids:List Nat} {n k i:Nat} {r:Row},ids[k]?=some i→lk rows i=some r→lk (z3p_ rows ids n) (n+k)=some r
 | [],n,k,i,r,h,_=>by simp at h
 | j::l,n,0,i,r,h,hr=>by
  simp at h; subst h
  simp only [z3p_,hr,Nat.add_zero]
  exact z3c_ _ _ _
 | j::l,n,k+1,i,r,h,hr=>by
  simp only [List.getElem?_cons_succ] at h
  have:=zoe_ (n:=n+1) h hr
  simp only [z3p_]
  split
  ·rw [zm_,if_neg (by omega),show n+(k+1)=n+1+k by omega]; exact this
  ·rw [show n+(k+1)=n+1+k by omega]; exact this
theorem zof_ {bx:List (Nat×Bx)} {f fb:Nat→Nat}:∀ {ids:List Nat} {n j:Nat} {b:Bx},lk (z3q_ bx f fb ids n) j=some b→∃ k i b0,j=n+k∧ids[k]?=some i∧lk bx i=some b0∧b=⟨b0.ty,b0.c.ren2 f fb⟩
 | [],n,j,r,h=>by cases h
 | i::l,n,j,r,h=>by
  have ih:lk (z3q_ bx f fb l (n+1)) j=some r→∃ k i' b0,j=n+k∧(i::l)[k]?=some i'∧lk bx i'=some b0∧r=⟨b0.ty,b0.c.ren2 f fb⟩:=fun h=>by
   obtain ⟨k,i',b0,h1,h2,h3⟩:=zof_ h
   exact ⟨k+1,i',b0,by omega,by simpa using h2,h3⟩
  simp only [z3q_] at h
  split at h
  ·rename_i x hx
   rw [zm_] at h
   split at h
   ·rename_i e; cases h; exact ⟨0,i,x,by omega,rfl,hx,rfl⟩
   ·exact ih h
  ·exact ih h
theorem zog_ {bx:List (Nat×Bx)} {f fb:Nat→Nat}:∀ {ids:List Nat} {n k i:Nat} {b:Bx},ids[k]?=some i→lk bx i=some b→lk (z3q_ bx f fb ids n) (n+k)=some ⟨b.ty,b.c.ren2 f fb⟩
 | [],n,k,i,r,h,_=>by simp at h
 | j::l,n,0,i,r,h,hr=>by
  simp at h; subst h
  simp only [z3q_,hr,Nat.add_zero]
  exact z3c_ _ _ _
 | j::l,n,k+1,i,r,h,hr=>by
  simp only [List.getElem?_cons_succ] at h
  have:=zog_ (f:=f) (fb:=fb) (n:=n+1) h hr
  simp only [z3q_]
  split
  ·rw [zm_,if_neg (by omega),show n+(k+1)=n+1+k by omega]; exact this
  ·rw [show n+(k+1)=n+1+k by omega]; exact this
theorem zeg_ (gr dp gb db:Nat→Bool) (gd:∀ i,gb i=true→db i=true) (s:SV):(∀ i∈(s.cutR gr dp gb db).roots,i∈s.roots∧gr i=false)∧(∀ i∈(s.cutR gr dp gb db).boxes,i∈s.boxes∧gb i=false)∧(s.cutR gr dp gb db).isSt=s.isSt∧(s.cutR gr dp gb db).count=s.count∧(s.cutR gr dp gb db).isCh=s.isCh:=by
 induction s with
 | st s ih=>exact ⟨ih.1,ih.2.1,rfl,rfl,rfl⟩
 | pr a b iha ihb =>
  refine ⟨fun i hi=>?_,fun i hi=>?_,rfl,rfl,rfl⟩
  ·simp only [SV.cutR,SV.roots,List.mem_append] at hi ⊢
   rcases hi with h | h
   ·exact ⟨.inl (iha.1 i h).1,(iha.1 i h).2⟩
   ·exact ⟨.inr (ihb.1 i h).1,(ihb.1 i h).2⟩
  ·simp only [SV.cutR,SV.boxes,List.mem_append] at hi ⊢
   rcases hi with h | h
   ·exact ⟨.inl (iha.2.1 i h).1,(iha.2.1 i h).2⟩
   ·exact ⟨.inr (ihb.2.1 i h).1,(ihb.2.1 i h).2⟩
 | clo g s ih=>exact ⟨ih.1,ih.2.1,rfl,rfl,rfl⟩
 | tup s ih=>exact ⟨ih.1,ih.2.1,rfl,rfl,rfl⟩
 | cns a b iha ihb =>
  refine ⟨fun i hi=>?_,fun i hi=>?_,rfl,by simp [SV.cutR,SV.count,ihb.2.2.2.1],rfl⟩
  ·simp only [SV.cutR,SV.roots,List.mem_append] at hi ⊢
   rcases hi with h | h
   ·exact ⟨.inl (iha.1 i h).1,(iha.1 i h).2⟩
   ·exact ⟨.inr (ihb.1 i h).1,(ihb.1 i h).2⟩
  ·simp only [SV.cutR,SV.boxes,List.mem_append] at hi ⊢
   rcases hi with h | h
   ·exact ⟨.inl (iha.2.1 i h).1,(iha.2.1 i h).2⟩
   ·exact ⟨.inr (ihb.2.1 i h).1,(ihb.2.1 i h).2⟩
 | ref j p =>
  simp only [SV.cutR]
  cases hg:gr j with
  | true=>exact ⟨by simp [SV.roots],by simp [SV.boxes],rfl,rfl,rfl⟩
  | false =>
   cases hq:(dp j&&Nat.blt 0 (ixs p)) with
   | true=>exact ⟨by simp [SV.roots],by simp [SV.boxes],rfl,rfl,rfl⟩
   | false=>exact ⟨fun i hi=>by simp [SV.roots] at hi ⊢; subst hi; exact ⟨rfl,hg⟩,by simp [SV.boxes],rfl,rfl,rfl⟩
 | vw j p n =>
  simp only [SV.cutR]
  cases hg:gr j with
  | true=>exact ⟨by simp [SV.roots],by simp [SV.boxes],rfl,rfl,rfl⟩
  | false=>exact ⟨fun i hi=>by simp [SV.roots] at hi ⊢; subst hi; exact ⟨rfl,hg⟩,by simp [SV.boxes],rfl,rfl,rfl⟩
 | ep j p n f o =>
  simp only [SV.cutR]
  cases hg:gr j with
  | true=>exact ⟨by simp [SV.roots],by simp [SV.boxes],rfl,rfl,rfl⟩
  | false =>
   cases hq:(dp j&&Nat.blt 0 (ixs p)) with
   | true=>exact ⟨by simp [SV.roots],by simp [SV.boxes],rfl,rfl,rfl⟩
   | false=>exact ⟨fun i hi=>by simp [SV.roots] at hi ⊢; subst hi; exact ⟨rfl,hg⟩,by simp [SV.boxes],rfl,rfl,rfl⟩
 | bp j p o =>
  simp only [SV.cutR]
  cases hg:gb j with
  | true=>exact ⟨by simp [SV.roots],by simp [SV.boxes],rfl,rfl,rfl⟩
  | false=>exact ⟨by simp [SV.roots],fun i hi=>by simp [SV.boxes] at hi ⊢; subst hi; exact ⟨rfl,hg⟩,rfl,rfl,rfl⟩
 | ls j =>
  simp only [SV.cutR]
  cases hg:db j with
  | true=>exact ⟨by simp [SV.roots],by simp [SV.boxes],rfl,rfl,rfl⟩
  | false=>exact ⟨by simp [SV.roots],fun i hi=>by
    simp [SV.boxes] at hi ⊢; subst hi
    exact ⟨rfl,by cases hq:gb i with | false=>rfl | true=>rw [gd i hq] at hg; cases hg⟩,rfl,rfl,rfl⟩
 | lp j n =>
  simp only [SV.cutR]
  cases hg:db j with
  | true=>exact ⟨by simp [SV.roots],by simp [SV.boxes],rfl,rfl,rfl⟩
  | false=>exact ⟨by simp [SV.roots],fun i hi=>by
    simp [SV.boxes] at hi ⊢; subst hi
    exact ⟨rfl,by cases hq:gb i with | false=>rfl | true=>rw [gd i hq] at hg; cases hg⟩,rfl,rfl,rfl⟩
 | val t x=>cases t <;> exact ⟨by simp [SV.cutR,SV.roots],by simp [SV.cutR,SV.boxes],rfl,rfl,rfl⟩
 | _=>exact ⟨by simp [SV.cutR,SV.roots],by simp [SV.cutR,SV.boxes],rfl,rfl,rfl⟩

section
variable {P : Program} {E E' : Env} {w0 w1 : World} {ok ok1 O : Nat → Prop} {σ σ' τ : St} {tm tm' : Array Value} {w w' : World} {M M' : Map} {a : Act}

theorem zu2_ {gr dp gb db:Nat→Bool} {s:SV}:∀ {cs:List Value},Near M M' gr dp gb db s→RepB w0 ok M s cs→RepB w0 ok M' (s.cutR gr dp gb db) cs:=by
 induction s with
 | cns a b iha ihb =>
  intro cs h hs
  obtain ⟨c1,c2,rfl,h1,h2⟩:=hs
  exact ⟨c1,c2,rfl,z2d_ (h.mono (fun i hi=>by simp [SV.roots,hi]) (fun i hi=>by simp [SV.boxes,hi])) h1,ihb (h.mono (fun i hi=>by simp [SV.roots,hi]) (fun i hi=>by simp [SV.boxes,hi])) h2⟩
 | nl=>intro cs _ hs; exact hs
 | val t x=>intro cs h hs; exact zn_ (z2d_ (s:=.val t x) h hs)
 | ref i p=>intro cs h hs; exact zn_ (z2d_ (s:=.ref i p) h hs)
 | vw i lo n=>intro cs h hs; exact zn_ (z2d_ (s:=.vw i lo n) h hs)
 | ls i=>intro cs h hs; exact zn_ (z2d_ (s:=.ls i) h hs)
 | st s _=>intro cs h hs; exact zn_ (z2d_ (s:=.st s) h hs)
 | pr a b _ _=>intro cs h hs; exact zn_ (z2d_ (s:=.pr a b) h hs)
 | bp i p o=>intro cs h hs; exact zn_ (z2d_ (s:=.bp i p o) h hs)
 | ep i p n f o=>intro cs h hs; exact zn_ (z2d_ (s:=.ep i p n f o) h hs)
 | lp i n=>intro cs h hs; exact zn_ (z2d_ (s:=.lp i n) h hs)
 | clo g s _=>intro cs h hs; exact zn_ (z2d_ (s:=.clo g s) h hs)
 | no=>intro cs _ hs; exact hs
 | un=>intro cs _ hs; exact hs
 | tup s _=>intro cs _ hs; exact hs.elim
theorem zu3_ {gr dp gb db:Nat→Bool} (gd:∀ i,gb i=true→db i=true) {s:SV}:∀ {vs:List Value},Near M M' gr dp gb db s→RepT w0 ok M s vs→RepT w0 ok M' (s.cutR gr dp gb db) vs:=by
 induction s with
 | cns a b iha ihb =>
  intro vs h hs
  obtain ⟨v,vs',rfl,⟨cs,h1,h3⟩,h2⟩:=hs
  exact ⟨v,vs',rfl,⟨cs,z2d_ (h.mono (fun i hi=>by simp [SV.roots,hi]) (fun i hi=>by simp [SV.boxes,hi])) h1,by rw [(zeg_ gr dp gb db gd a).2.2.1]; exact h3⟩,ihb (h.mono (fun i hi=>by simp [SV.roots,hi]) (fun i hi=>by simp [SV.boxes,hi])) h2⟩
 | nl=>intro vs _ hs; exact hs
 | _=>intro vs _ hs; exact hs.elim
theorem zu4_ {gr dp gb db:Nat→Bool} {s:SV} {v:Value} (h:Near M M' gr dp gb db s) (hs:RepS w0 ok M s v):RepS w0 ok M' (s.cutR gr dp gb db) v:=by
 rcases z1w_ hs with rfl | ⟨c,vs,rfl,rfl,h1⟩ | ⟨cs,h1,h2⟩
 ·trivial
 ·exact ⟨vs,rfl,zu3_ h.gd (s:=c) (h.mono (fun i hi=>hi) (fun i hi=>hi)) h1⟩
 ·exact z14_ (z2d_ h h1) (by unfold z1o_; rw [(zeg_ gr dp gb db h.gd s).2.2.1]; exact h2)

def Own (M:Map) (ids bids:List Nat) (k:Nat):Prop:=(∃ i∈ids,k∈z1_ (M.loc i).1 (M.loc i).2)∨∃ b∈bids,k=M.blk b
def z94_ (M:Map) (ids bids:List Nat):Map:=⟨fun j=>M.loc (nthD ids (j-PIN)),fun j=>M.blk (nthD bids (j-PIN)),fun j=>M.bn (nthD bids (j-PIN)),fun j=>M.bw (nthD bids (j-PIN))⟩
def hdL (x:Loc):Value:=(z6_ x.1 x.2).headD undef
def zeh_ (E:Env) (M:Map) (ids bids:List Nat):Env:={ E with pins:=fun j=>hdL (M.loc (nthD ids (j-PIN))),pinB:=fun j=>M.blk (nthD bids (j-PIN)) }

structure InOK (σ:St) (l:List SV) (ids bids:List Nat):Prop where
 nd:ids.Nodup
 ndB:bids.Nodup
 args:∀ s∈l,(∀ i∈s.roots,i∈ids)∧∀ i∈s.boxes,i∈bids
 bx:∀ b∈bids,∃ x,lk σ.bx b=some x∧(∀ i∈x.c.boxes,i∈bids)∧∀ i∈x.c.roots,i∈ids
 rows:∀ i∈ids,∃ r,lk σ.rows i=some r
theorem zu5_ {l:List SV} {ids bids:List Nat} (h:σ.okIn l ids bids=true):InOK σ l ids bids:=by
 simp only [St.okIn,Bool.and_eq_true,List.all_eq_true] at h
 obtain ⟨h1,h2,h3,h4,h5⟩:=h
 refine ⟨zc0_ h1,zc0_ h2,fun s hs=>⟨fun i hi=>z30_.1 ((h3 s hs).1 i hi),fun i hi=>z30_.1 ((h3 s hs).2 i hi)⟩,fun b hb=>?_,fun i hi=>?_⟩
 ·obtain ⟨k1,k2,k3⟩:=h4 b hb
  unfold zi1_ at k2
  unfold zd0_ at k3
  cases hq:lk σ.bx b with
  | none=>rw [hq] at k1; cases k1
  | some x=>rw [hq] at k2 k3; exact ⟨x,rfl,fun i hi=>z30_.1 (k2 i hi),fun i hi=>z30_.1 (k3 i hi)⟩
 ·have:=h5 i hi
  cases hq:lk σ.rows i with
  | none=>rw [hq] at this; cases this
  | some r=>exact ⟨r,rfl⟩

theorem zoh_ {x:Loc} {e:TypeId} {t:Ty} {l:L (.sl e t)} (h:x=⟨.sl e t,l⟩):z6_ x.1 x.2=[hdL x]:=by subst h; rfl

theorem zu6_ (R:Rep E w0 ok O σ tm w M) {l:List SV} {vs:List Value} {ids bids:List Nat} (H:InOK σ l ids bids) (hl:l.length=vs.length) (hs:∀ (k:Nat) s v,l[k]?=some s→vs[k]?=some v→RepS w0 ok M s v) :
  Rep (zeh_ E M ids bids) w ok (Own M ids bids) ⟨z4x_ (l.map (SV.ren2 (z16_ ids) (z16_ bids))) 0,z3p_ σ.rows ids PIN,z3q_ σ.bx (z16_ ids) (z16_ bids) bids PIN⟩ vs.toArray w (z94_ M ids bids):=by
 have HR:Renm2 M (z94_ M ids bids) (z16_ ids) (z16_ bids) (·∈ids) (·∈bids) :=
  ⟨fun i hi=>by show M.loc (nthD ids (z16_ ids i-PIN))=_; rw [zec_ hi],fun i hi=>by
   refine ⟨?_,?_,?_⟩
   ·show M.blk (nthD bids (z16_ bids i-PIN))=_; rw [zec_ hi]
   ·show M.bn (nthD bids (z16_ bids i-PIN))=_; rw [zec_ hi]
   ·show M.bw (nthD bids (z16_ bids i-PIN))=_; rw [zec_ hi]⟩
 have row:∀ j r,lk (z3p_ σ.rows ids PIN) j=some r→∃ k i,j=PIN+k∧ids[k]?=some i∧i∈ids∧lk σ.rows i=some r∧(z94_ M ids bids).loc j=M.loc i:=fun j r h=>by
  obtain ⟨k,i,rfl,h2,h3⟩:=zod_ h
  exact ⟨k,i,rfl,h2,List.mem_of_getElem? h2,h3,by show M.loc (nthD ids (PIN+k-PIN))=_; rw [Nat.add_sub_cancel_left,z4o_ h2]⟩
 have box:∀ j b,lk (z3q_ σ.bx (z16_ ids) (z16_ bids) bids PIN) j=some b→∃ k i b0,j=PIN+k∧bids[k]?=some i∧i∈bids∧lk σ.bx i=some b0∧b=⟨b0.ty,b0.c.ren2 (z16_ ids) (z16_ bids)⟩∧(z94_ M ids bids).blk j=M.blk i∧(z94_ M ids bids).bn j=M.bn i∧(z94_ M ids bids).bw j=M.bw i:=fun j b h=>by
  obtain ⟨k,i,b0,rfl,h2,h3,h4⟩:=zof_ h
  refine ⟨k,i,b0,rfl,h2,List.mem_of_getElem? h2,h3,h4,?_,?_,?_⟩
  ·show M.blk (nthD bids (PIN+k-PIN))=_; rw [Nat.add_sub_cancel_left,z4o_ h2]
  ·show M.bn (nthD bids (PIN+k-PIN))=_; rw [Nat.add_sub_cancel_left,z4o_ h2]
  ·show M.bw (nthD bids (PIN+k-PIN))=_; rw [Nat.add_sub_cancel_left,z4o_ h2]
 have live:∀ s:SV,(∀ i∈s.roots,i∈ids)→(∀ i∈s.boxes,i∈bids)→Live ⟨z4x_ (l.map (SV.ren2 (z16_ ids) (z16_ bids))) 0,z3p_ σ.rows ids PIN,z3q_ σ.bx (z16_ ids) (z16_ bids) bids PIN⟩ (s.ren2 (z16_ ids) (z16_ bids)):=fun s h1 h2=>by
  refine ⟨fun j hj=>?_,fun j hj=>?_⟩
  ·rw [(z4n_ _ _ s).1] at hj
   obtain ⟨i,hi,rfl⟩:=List.mem_map.1 hj
   obtain ⟨k,e1,e2⟩:=zja_ (h1 i hi)
   obtain ⟨r,hr⟩:=H.rows i (h1 i hi)
   rw [e1]
   exact ⟨r,zoe_ e2 hr⟩
  ·rw [(z4n_ _ _ s).2.1] at hj
   obtain ⟨i,hi,rfl⟩:=List.mem_map.1 hj
   obtain ⟨k,e1,e2⟩:=zja_ (h2 i hi)
   obtain ⟨b,hb,_⟩:=H.bx i (h2 i hi)
   rw [e1]
   exact ⟨_,zog_ e2 hb⟩
 have base:∀ (t:Ty) (x:t.T) (cs:List Value),Rd w0 ok t x cs→Rd w ok t x cs:=fun t x cs h=>R.rd h
 have notOk:∀ k,Own M ids bids k→¬ ok k:=fun k h=>by
  rcases h with ⟨i,hi,hk⟩ | ⟨b,hb,rfl⟩
  ·obtain ⟨r,hr⟩:=H.rows i hi
   exact (R.ownR i ⟨r,hr⟩ k hk).1
  ·obtain ⟨x,hx,_⟩:=H.bx b hb
   exact (R.ownB b ⟨x,hx⟩).1
 constructor
 ·intro s v h
  obtain ⟨k,e,h2⟩:=zef_ h
  rw [Nat.zero_add] at e
  subst e
  rw [List.getElem?_map,Option.map_eq_some_iff] at h2
  obtain ⟨u,h2,rfl⟩:=h2
  have hlt:s<vs.length:=by rw [← hl]; exact (List.getElem?_eq_some_iff.1 h2).1
  have hm:=List.mem_of_getElem? h2
  refine ⟨vs[s],by simp [hlt],?_⟩
  exact zo8_ HR (H.args u hm).1 (H.args u hm).2 (zdn_ base (hs s u _ h2 (List.getElem?_eq_getElem hlt)))
 ·intro j r h
  obtain ⟨k,i,rfl,h2,h3,h4,h5⟩:=row j r h
  obtain ⟨q,e1,e2⟩:=R.rows i r h4
  exact ⟨q,h5.trans e1,e2.1,z4b_ (fun _ _ _ h=>R.rd h) e2.2.1,e2.2.2⟩
 ·intro j b h
  obtain ⟨k,i,b0,rfl,h2,h3,h4,rfl,h5,h6,h7⟩:=box j b h
  obtain ⟨cs,e1,e2,e3⟩:=R.boxes i b0 h4
  obtain ⟨b1,g1,g2,g3⟩:=H.bx i h3
  rw [h4] at g1
  cases g1
  refine ⟨cs,zo7_ HR g3 g2 (zbt_ base e1),by rw [h5]; exact e2,fun hc=>?_⟩
  rw [(z4n_ _ _ b0.c).2.2.2.2] at hc
  obtain ⟨f1,f2,f3⟩:=e3 hc
  rw [h6,h7]
  exact ⟨by rw [(z4n_ _ _ b0.c).2.2.2.1]; exact f1,f2,by rw [(z4n_ _ _ b0.c).2.2.2.1]; exact f3⟩
 ·rintro i j hij ⟨r,hr⟩ ⟨r',hr'⟩ k hk
  obtain ⟨m,i',rfl,h2,h3,h4,h5⟩:=row i r hr
  obtain ⟨m',j',rfl,g2,g3,g4,g5⟩:=row j r' hr'
  rw [h5] at hk
  rw [g5]
  refine R.rr i' j' (fun e=>?_) ⟨r,h4⟩ ⟨r',g4⟩ k hk
  subst e
  exact hij (by rw [zeb_ H.nd h2 g2])
 ·rintro i j hij ⟨r,hr⟩ ⟨r',hr'⟩
  obtain ⟨m,i',b,rfl,h2,h3,h4,_,h5,_⟩:=box i r hr
  obtain ⟨m',j',b',rfl,g2,g3,g4,_,g5,_⟩:=box j r' hr'
  rw [h5,g5]
  refine R.bb i' j' (fun e=>?_) ⟨b,h4⟩ ⟨b',g4⟩
  subst e
  exact hij (by rw [zeb_ H.ndB h2 g2])
 ·rintro i j ⟨r,hr⟩ ⟨r',hr'⟩
  obtain ⟨m,i',rfl,h2,h3,h4,h5⟩:=row i r hr
  obtain ⟨m',j',b',rfl,g2,g3,g4,_,g5,_⟩:=box j r' hr'
  rw [h5,g5]
  exact R.rb i' j' ⟨r,h4⟩ ⟨b',g4⟩
 ·rintro i ⟨r,hr⟩ k hk
  obtain ⟨m,i',rfl,h2,h3,h4,h5⟩:=row i r hr
  rw [h5] at hk
  exact ⟨(R.ownR i' ⟨r,h4⟩ k hk).1,.inl (.inl ⟨i',h3,hk⟩)⟩
 ·rintro i ⟨r,hr⟩
  obtain ⟨m,i',b,rfl,h2,h3,h4,_,h5,_⟩:=box i r hr
  rw [h5]
  exact ⟨(R.ownB i' ⟨b,h4⟩).1,.inl (.inr ⟨i',h3,rfl⟩)⟩
 ·exact fun k hk=>⟨R.ok_lt hk,fun h=>notOk k h hk⟩
 ·intro s v h
  obtain ⟨k,e,h2⟩:=zef_ h
  rw [List.getElem?_map,Option.map_eq_some_iff] at h2
  obtain ⟨u,h2,rfl⟩:=h2
  have hm:=List.mem_of_getElem? h2
  exact live u (H.args u hm).1 (H.args u hm).2
 ·intro j b h
  obtain ⟨k,i,b0,rfl,h2,h3,h4,rfl,_⟩:=box j b h
  obtain ⟨b1,g1,g2,g3⟩:=H.bx i h3
  rw [h4] at g1
  cases g1
  exact live b0.c g3 g2
 ·exact Kept.refl _ _
 ·rintro i hi ⟨r,hr⟩
  obtain ⟨m,i',rfl,h2,h3,h4,h5⟩:=row i r hr
  obtain ⟨q,e1,_⟩:=R.rows i' r h4
  rw [h5]
  show _=[hdL (M.loc (nthD ids (PIN+m-PIN)))]
  rw [Nat.add_sub_cancel_left,z4o_ h2]
  exact zoh_ e1
 ·rintro i hi ⟨r,hr⟩
  rfl
end
end Go.Proofs.YtioaaljaohhjiaaGreatDoor.Ev
