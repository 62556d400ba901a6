/- Plain values for a program that runs on a machine: an evaluator of loaded code and the proof that it tells what the machine does (part 3 of 7). No conditions: definitions and lemmas z4r any program. -/
import Derived.Test.YtjbnebolfnjneaaGreatDoorEv2
import Derived.Laws.Small
import Derived.Laws.CopyRow
import Derived.Deep.AppendSrc
import Derived.Deep.Upon
import Derived.Laws.AppendOwn
set_option linter.unusedVariables false
set_option linter.unusedSimpArgs false
/- What a state says less of: rows and variables dropped, slots z32. Over any program. -/
namespace Go.Proofs.YtjbnebolfnjneaaGreatDoor.Ev
open Go.RowKit

inductive Wk:SV→SV→Prop where
 | same (s:SV):Wk s s
 | ref (i:Nat) (p:List Step):Wk (.ref i p) .un
 | vw (i a b:Nat):Wk (.vw i a b) .un
 | ls (i:Nat):Wk (.ls i) .un
 | bp (i:Nat) (p:List Bool) (o:Nat):Wk (.bp i p o) .un
 | ep (i:Nat) (p:List Step) (n:Nat) (f:List Bool) (o:Nat):Wk (.ep i p n f o) .un
 | lp (i n:Nat):Wk (.lp i n) .un
 | st {s s':SV}:Wk s s'→Wk (.st s) (.st s')
 | pr {a a' b b':SV}:Wk a a'→Wk b b'→Wk (.pr a b) (.pr a' b')
 | clo (g:FuncId) {s s':SV}:Wk s s'→Wk (.clo g s) (.clo g s')
 | tup {s s':SV}:Wk s s'→Wk (.tup s) (.tup s')
 | cns {a a' b b':SV}:Wk a a'→Wk b b'→Wk (.cns a b) (.cns a' b')

theorem Wk.trans {a b c:SV} (h:Wk a b) (k:Wk b c):Wk a c:=by
 induction h generalizing c with
 | same s=>exact k
 | ref i p=>cases k; exact .ref i p
 | vw i a b=>cases k; exact .vw i a b
 | ls i=>cases k; exact .ls i
 | bp i p o=>cases k; exact .bp i p o
 | ep i p n f o=>cases k; exact .ep i p n f o
 | lp i n=>cases k; exact .lp i n
 | st h ih =>
  cases k with
  | same=>exact .st h
  | st k=>exact .st (ih k)
 | pr h1 h2 ih1 ih2 =>
  cases k with
  | same=>exact .pr h1 h2
  | pr k1 k2=>exact .pr (ih1 k1) (ih2 k2)
 | clo g h ih =>
  cases k with
  | same=>exact .clo g h
  | clo _ k=>exact .clo g (ih k)
 | tup h ih =>
  cases k with
  | same=>exact .tup h
  | tup k=>exact .tup (ih k)
 | cns h1 h2 ih1 ih2 =>
  cases k with
  | same=>exact .cns h1 h2
  | cns k1 k2=>exact .cns (ih1 k1) (ih2 k2)

section
variable {P : Program} {E : Env} {w0 : World} {ok O : Nat → Prop} {σ σ' : St} {tm : Array Value} {w : World} {M : Map}

theorem Wk.V {a b:SV} (h:Wk a b):∀ {cs:List Value},za w0 ok M a cs→za w0 ok M b cs:=by
 induction h with
 | same s=>exact fun h=>h
 | ref i p=>intro cs h; have:=za.one h; obtain ⟨e,t,l,_,rfl⟩:=h; exact ⟨_,rfl,this _ (by simp [z8])⟩
 | vw i a b=>intro cs h; have:=za.one h; obtain ⟨e,t,l,_,_,A,c,rfl,_⟩:=h; exact ⟨_,rfl,this _ (by simp)⟩
 | ls i=>intro cs h; have:=za.one h; simp only [za] at h; subst h; exact ⟨_,rfl,this _ (by simp)⟩
 | bp i p o=>intro cs h; have:=za.one h; simp only [za] at h; subst h; exact ⟨_,rfl,this _ (by simp)⟩
 | ep i p n f o=>intro cs h; have:=za.one h; obtain ⟨e,t,l,g,_,_,_,rfl⟩:=h; exact ⟨_,rfl,this _ (by simp)⟩
 | lp i n=>intro cs h; have:=za.one h; obtain ⟨_,rfl⟩:=h; exact ⟨_,rfl,this _ (by simp)⟩
 | st h ih=>intro cs h; exact ih h
 | pr h1 h2 ih1 ih2=>intro cs h; obtain ⟨c1,c2,rfl,k1,k2⟩:=h; exact ⟨c1,c2,rfl,ih1 k1,ih2 k2⟩
 | clo g h ih=>intro cs h; obtain ⟨caps,rfl,k⟩:=h; exact ⟨caps,rfl,ih k⟩
 | tup h ih=>intro cs h; exact h.elim
 | cns h1 h2 ih1 ih2=>intro cs h; exact h.elim
theorem Wk.isSt {a b:SV} (h:Wk a b):b.isSt=a.isSt:=by cases h <;> rfl
theorem Wk.count {a b:SV} (h:Wk a b):b.count=a.count∧b.isCh=a.isCh:=by
 induction h <;> first | exact ⟨rfl,rfl⟩ | skip
 rename_i ih1 ih2
 exact ⟨by simp [SV.count,ih2.1],rfl⟩
theorem Wk.B {a b:SV} (h:Wk a b):∀ {cs:List Value},z1e w0 ok M a cs→z1e w0 ok M b cs:=by
 induction h with
 | same s=>exact fun h=>h
 | cns h1 h2 ih1 ih2=>intro cs h; obtain ⟨c1,c2,rfl,k1,k2⟩:=h; exact ⟨c1,c2,rfl,h1.V k1,ih2 k2⟩
 | st h=>intro cs k; exact (Wk.st h).V k
 | pr h1 h2=>intro cs k; exact (Wk.pr h1 h2).V k
 | clo g h=>intro cs k; exact (Wk.clo g h).V k
 | tup h=>intro cs k; exact k.elim
 | ref i p=>intro cs k; exact (Wk.ref i p).V k
 | vw i a b=>intro cs k; exact (Wk.vw i a b).V k
 | ls i=>intro cs k; exact (Wk.ls i).V k
 | bp i p o=>intro cs k; exact (Wk.bp i p o).V k
 | ep i p n f o=>intro cs k; exact (Wk.ep i p n f o).V k
 | lp i n=>intro cs k; exact (Wk.lp i n).V k
theorem Wk.Tp {a b:SV} (h:Wk a b):∀ {vs:List Value},z2d w0 ok M a vs→z2d w0 ok M b vs:=by
 induction h with
 | same s=>exact fun h=>h
 | cns h1 h2 ih1 ih2 =>
  intro vs h
  obtain ⟨v,vs',rfl,⟨cs,k1,k2⟩,k3⟩:=h
  exact ⟨v,vs',rfl,⟨cs,h1.V k1,by rw [h1.isSt]; exact k2⟩,ih2 k3⟩
 | _=>intro vs k; exact k.elim
theorem Wk.S {a b:SV} (h:Wk a b) {v:Value} (hs:zi w0 ok M a v):zi w0 ok M b v:=by
 rcases z34 hs with rfl | ⟨c,vs,rfl,rfl,h1⟩ | ⟨cs,h1,h2⟩
 ·cases h; trivial
 ·cases h with
  | same=>exact hs
  | tup k=>exact ⟨vs,rfl,k.Tp h1⟩
 ·exact z1m (h.V h1) (by unfold z2h; rw [h.isSt]; exact h2)

theorem Rep.weaken (R:Rep E w0 ok O σ tm w M) (hs:∀ s v,lk σ'.sl s=some v→(∃ u,lk σ.sl s=some u∧Wk u v)∧Live σ' v) (hr:∀ i r,lk σ'.rows i=some r→lk σ.rows i=some r)
  (hb:∀ i b,lk σ'.bx i=some b→(∃ b0,lk σ.bx i=some b0∧b.ty=b0.ty∧Wk b0.c b.c)∧Live σ' b.c):Rep E w0 ok O σ' tm w M where
 slots:=fun s v h=>by
  obtain ⟨⟨u,h1,h2⟩,_⟩:=hs s v h
  obtain ⟨z,h3,h4⟩:=R.slots s u h1
  exact ⟨z,h3,h2.S h4⟩
 rows:=fun i r h=>R.rows i r (hr i r h)
 boxes:=fun i b h=>by
  obtain ⟨⟨b0,h1,h2,h3⟩,_⟩:=hb i b h
  obtain ⟨cs,h4,h5,h6⟩:=R.boxes i b0 h1
  refine ⟨cs,h3.B h4,by rw [h2]; exact h5,fun hc=>?_⟩
  rw [h3.count.2] at hc
  rw [h3.count.1,h2]
  exact h6 hc
 rr:=fun i j hij ⟨r,h1⟩ ⟨r',h2⟩=>R.rr i j hij ⟨r,hr i r h1⟩ ⟨r',hr j r' h2⟩
 bb:=fun i j hij ⟨b,h1⟩ ⟨b',h2⟩=>by
  obtain ⟨⟨b0,k1,_⟩,_⟩:=hb i b h1
  obtain ⟨⟨b1,k2,_⟩,_⟩:=hb j b' h2
  exact R.bb i j hij ⟨b0,k1⟩ ⟨b1,k2⟩
 rb:=fun i j ⟨r,h1⟩ ⟨b',h2⟩=>by
  obtain ⟨⟨b1,k2,_⟩,_⟩:=hb j b' h2
  exact R.rb i j ⟨r,hr i r h1⟩ ⟨b1,k2⟩
 ownR:=fun i ⟨r,h1⟩=>R.ownR i ⟨r,hr i r h1⟩
 ownB:=fun i ⟨b,h1⟩=>by
  obtain ⟨⟨b0,k1,_⟩,_⟩:=hb i b h1
  exact R.ownB i ⟨b0,k1⟩
 okB:=R.okB
 liveS:=fun s v h=>(hs s v h).2
 liveB:=fun i b h=>(hb i b h).2
 kept:=R.kept
 pin:=fun i hi ⟨r,h1⟩=>R.pin i hi ⟨r,hr i r h1⟩
 pinB:=fun i hi ⟨b,h1⟩=>by
  obtain ⟨⟨b0,k1,_⟩,_⟩:=hb i b h1
  exact R.pinB i hi ⟨b0,k1⟩

theorem z24 {α β:Type} (f:α→β):∀ (l:List (Nat×α)) (i:Nat),lk (zw f l) i=(lk l i).map f
 | [],i=>rfl
 | (k,v)::l,i=>by
  simp only [zw]
  rw [zn,zn,z24 f l i]
  split <;> rfl
theorem z4z {α:Type}:∀ (l:List (Nat×α)) (n i:Nat),lk (rm l n) i=if n=i then none else lk l i
 | [],n,i=>by simp [rm,lk]
 | (k,v)::l,n,i=>by
  simp only [rm]
  by_cases hk:k=n
  ·subst hk
   simp only [show Nat.beq k k=true by simp,cond_true]
   rw [z4z l k i,zn]
   split <;> rfl
  ·have:Nat.beq k n=false:=by cases hb:Nat.beq k n with | false=>rfl | true=>exact absurd (Nat.eq_of_beq_eq_true hb) hk
   simp only [this,cond_false]
   rw [zn,zn,z4z l n i]
   split
   ·rename_i h1; subst h1; rw [if_neg (fun h=>hk h.symm)]
   ·rfl

theorem z4m (i j:Nat):Nat.beq i j=decide (i=j):=by
 by_cases h:i=j
 ·subst h; simp
 ·have:Nat.beq i j=false:=by cases hb:Nat.beq i j with | false=>rfl | true=>exact absurd (Nat.eq_of_beq_eq_true hb) h
  simp [this,h]

theorem z6k (i:Nat):∀ s:SV,Wk s (s.kill i)∧(∀ j∈(s.kill i).roots,j∈s.roots∧j≠i)∧(∀ j∈(s.kill i).boxes,j∈s.boxes)
 | .val _ _=>⟨.same _,by simp [SV.kill,SV.roots],by simp [SV.kill,SV.boxes]⟩
 | .ref j p=>by
  simp only [SV.kill,z4m]
  by_cases h:i=j
  ·simp only [h,decide_true,cond_true]; exact ⟨.ref _ _,by simp [SV.roots],by simp [SV.boxes]⟩
  ·simp only [h,decide_false,cond_false]; exact ⟨.same _,by simp [SV.roots]; exact fun e=>h e.symm,by simp [SV.boxes]⟩
 | .vw j a b=>by
  simp only [SV.kill,z4m]
  by_cases h:i=j
  ·simp only [h,decide_true,cond_true]; exact ⟨.vw _ _ _,by simp [SV.roots],by simp [SV.boxes]⟩
  ·simp only [h,decide_false,cond_false]; exact ⟨.same _,by simp [SV.roots]; exact fun e=>h e.symm,by simp [SV.boxes]⟩
 | .ls j=>⟨.same _,by simp [SV.kill,SV.roots],by simp [SV.kill,SV.boxes]⟩
 | .st s=>by
  obtain ⟨h1,h2,h3⟩:=z6k i s
  exact ⟨.st h1,h2,h3⟩
 | .pr a b=>by
  obtain ⟨h1,h2,h3⟩:=z6k i a
  obtain ⟨k1,k2,k3⟩:=z6k i b
  refine ⟨.pr h1 k1,fun j hj=>?_,fun j hj=>?_⟩
  ·simp only [SV.kill,SV.roots,List.mem_append] at hj ⊢
   rcases hj with hj | hj
   ·exact ⟨.inl (h2 j hj).1,(h2 j hj).2⟩
   ·exact ⟨.inr (k2 j hj).1,(k2 j hj).2⟩
  ·simp only [SV.kill,SV.boxes,List.mem_append] at hj ⊢
   exact hj.imp (h3 j) (k3 j)
 | .bp _ _ _=>⟨.same _,by simp [SV.kill,SV.roots],by simp [SV.kill,SV.boxes]⟩
 | .ep j p n f o=>by
  simp only [SV.kill,z4m]
  by_cases h:i=j
  ·simp only [h,decide_true,cond_true]; exact ⟨.ep _ _ _ _ _,by simp [SV.roots],by simp [SV.boxes]⟩
  ·simp only [h,decide_false,cond_false]; exact ⟨.same _,by simp [SV.roots]; exact fun e=>h e.symm,by simp [SV.boxes]⟩
 | .lp _ _=>⟨.same _,by simp [SV.kill,SV.roots],by simp [SV.kill,SV.boxes]⟩
 | .clo g s=>by
  obtain ⟨h1,h2,h3⟩:=z6k i s
  exact ⟨.clo g h1,h2,h3⟩
 | .tup s=>by
  obtain ⟨h1,h2,h3⟩:=z6k i s
  exact ⟨.tup h1,h2,h3⟩
 | .cns a b=>by
  obtain ⟨h1,h2,h3⟩:=z6k i a
  obtain ⟨k1,k2,k3⟩:=z6k i b
  refine ⟨.cns h1 k1,fun j hj=>?_,fun j hj=>?_⟩
  ·simp only [SV.kill,SV.roots,List.mem_append] at hj ⊢
   rcases hj with hj | hj
   ·exact ⟨.inl (h2 j hj).1,(h2 j hj).2⟩
   ·exact ⟨.inr (k2 j hj).1,(k2 j hj).2⟩
  ·simp only [SV.kill,SV.boxes,List.mem_append] at hj ⊢
   exact hj.imp (h3 j) (k3 j)
 | .nl=>⟨.same _,by simp [SV.kill,SV.roots],by simp [SV.kill,SV.boxes]⟩
 | .no=>⟨.same _,by simp [SV.kill,SV.roots],by simp [SV.kill,SV.boxes]⟩
 | .er _=>⟨.same _,by simp [SV.kill,SV.roots],by simp [SV.kill,SV.boxes]⟩
 | .un=>⟨.same _,by simp [SV.kill,SV.roots],by simp [SV.kill,SV.boxes]⟩

theorem z6l (i:Nat):∀ s:SV,Wk s (s.killB i)∧(∀ j∈(s.killB i).roots,j∈s.roots)∧(∀ j∈(s.killB i).boxes,j∈s.boxes∧j≠i)
 | .val _ _=>⟨.same _,by simp [SV.killB,SV.roots],by simp [SV.killB,SV.boxes]⟩
 | .ref j p=>⟨.same _,by simp [SV.killB,SV.roots],by simp [SV.killB,SV.boxes]⟩
 | .vw j a b=>⟨.same _,by simp [SV.killB,SV.roots],by simp [SV.killB,SV.boxes]⟩
 | .ls j=>by
  simp only [SV.killB,z4m]
  by_cases h:i=j
  ·simp only [h,decide_true,cond_true]; exact ⟨.ls _,by simp [SV.roots],by simp [SV.boxes]⟩
  ·simp only [h,decide_false,cond_false]; exact ⟨.same _,by simp [SV.roots],by simp [SV.boxes]; exact fun e=>h e.symm⟩
 | .st s=>by
  obtain ⟨h1,h2,h3⟩:=z6l i s
  exact ⟨.st h1,h2,h3⟩
 | .pr a b=>by
  obtain ⟨h1,h2,h3⟩:=z6l i a
  obtain ⟨k1,k2,k3⟩:=z6l i b
  refine ⟨.pr h1 k1,fun j hj=>?_,fun j hj=>?_⟩
  ·simp only [SV.killB,SV.roots,List.mem_append] at hj ⊢
   exact hj.imp (h2 j) (k2 j)
  ·simp only [SV.killB,SV.boxes,List.mem_append] at hj ⊢
   rcases hj with hj | hj
   ·exact ⟨.inl (h3 j hj).1,(h3 j hj).2⟩
   ·exact ⟨.inr (k3 j hj).1,(k3 j hj).2⟩
 | .bp j p o=>by
  simp only [SV.killB,z4m]
  by_cases h:i=j
  ·simp only [h,decide_true,cond_true]; exact ⟨.bp _ _ _,by simp [SV.roots],by simp [SV.boxes]⟩
  ·simp only [h,decide_false,cond_false]; exact ⟨.same _,by simp [SV.roots],by simp [SV.boxes]; exact fun e=>h e.symm⟩
 | .ep j p n f o=>⟨.same _,by simp [SV.killB,SV.roots],by simp [SV.killB,SV.boxes]⟩
 | .lp j n=>by
  simp only [SV.killB,z4m]
  by_cases h:i=j
  ·simp only [h,decide_true,cond_true]; exact ⟨.lp _ _,by simp [SV.roots],by simp [SV.boxes]⟩
  ·simp only [h,decide_false,cond_false]; exact ⟨.same _,by simp [SV.roots],by simp [SV.boxes]; exact fun e=>h e.symm⟩
 | .clo g s=>by
  obtain ⟨h1,h2,h3⟩:=z6l i s
  exact ⟨.clo g h1,h2,h3⟩
 | .tup s=>by
  obtain ⟨h1,h2,h3⟩:=z6l i s
  exact ⟨.tup h1,h2,h3⟩
 | .cns a b=>by
  obtain ⟨h1,h2,h3⟩:=z6l i a
  obtain ⟨k1,k2,k3⟩:=z6l i b
  refine ⟨.cns h1 k1,fun j hj=>?_,fun j hj=>?_⟩
  ·simp only [SV.killB,SV.roots,List.mem_append] at hj ⊢
   exact hj.imp (h2 j) (k2 j)
  ·simp only [SV.killB,SV.boxes,List.mem_append] at hj ⊢
   rcases hj with hj | hj
   ·exact ⟨.inl (h3 j hj).1,(h3 j hj).2⟩
   ·exact ⟨.inr (k3 j hj).1,(k3 j hj).2⟩
 | .nl=>⟨.same _,by simp [SV.killB,SV.roots],by simp [SV.killB,SV.boxes]⟩
 | .no=>⟨.same _,by simp [SV.killB,SV.roots],by simp [SV.killB,SV.boxes]⟩
 | .er _=>⟨.same _,by simp [SV.killB,SV.roots],by simp [SV.killB,SV.boxes]⟩
 | .un=>⟨.same _,by simp [SV.killB,SV.roots],by simp [SV.killB,SV.boxes]⟩

theorem Rep.mapped (R:Rep E w0 ok O σ tm w M) (f:SV→SV) (hf:∀ s,Wk s (f s)) (hrows:∀ i r,lk σ'.rows i=some r→lk σ.rows i=some r) (hsl:∀ s v,lk σ'.sl s=some v→∃ u,lk σ.sl s=some u∧v=f u)
  (hbx:∀ i b,lk σ'.bx i=some b→∃ u,lk σ.bx i=some u∧b=⟨u.ty,f u.c⟩) (hl:∀ u,Live σ u→Live σ' (f u)):Rep E w0 ok O σ' tm w M :=
 R.weaken (fun s v h=>by
  obtain ⟨u,h1,rfl⟩:=hsl s v h
  exact ⟨⟨u,h1,hf u⟩,hl u (R.liveS s u h1)⟩) hrows (fun i b h=>by
  obtain ⟨u,h1,rfl⟩:=hbx i b h
  exact ⟨⟨u,h1,rfl,hf u.c⟩,hl u.c (R.liveB i u h1)⟩)

theorem Rep.drop (R:Rep E w0 ok O σ tm w M) (i:Nat):Rep E w0 ok O (σ.drop i) tm w M:=by
 refine R.mapped (SV.kill i) (fun s=>(z6k i s).1) (fun j r h=>?_) (fun s v h=>?_) (fun j b h=>?_) (fun u hu=>⟨fun j hj=>?_,fun j hj=>?_⟩)
 ·have h:lk (rm σ.rows i) j=some r:=h
  rw [z4z] at h
  split at h
  ·cases h
  ·exact h
 ·have h:lk (zw (SV.kill i) σ.sl) s=some v:=h
  rw [z24] at h
  obtain ⟨u,h1,rfl⟩:=Option.map_eq_some_iff.1 h
  exact ⟨u,h1,rfl⟩
 ·have h:lk (zw (fun b:Bx=>(⟨b.ty,b.c.kill i⟩:Bx)) σ.bx) j=some b:=h
  rw [z24] at h
  obtain ⟨u,h1,rfl⟩:=Option.map_eq_some_iff.1 h
  exact ⟨u,h1,rfl⟩
 ·obtain ⟨h1,h2⟩:=(z6k i u).2.1 j hj
  obtain ⟨r,hr⟩:=hu.rows j h1
  exact ⟨r,by show lk (rm σ.rows i) j=_; rw [z4z,if_neg (fun e=>h2 e.symm)]; exact hr⟩
 ·obtain ⟨b,hb⟩:=hu.boxes j ((z6k i u).2.2 j hj)
  exact ⟨_,by show lk (zw _ σ.bx) j=_; rw [z24,hb]; rfl⟩
theorem Rep.dropB (R:Rep E w0 ok O σ tm w M) (i:Nat):Rep E w0 ok O (σ.dropB i) tm w M:=by
 refine R.mapped (SV.killB i) (fun s=>(z6l i s).1) (fun j r h=>h) (fun s v h=>?_) (fun j b h=>?_) (fun u hu=>⟨fun j hj=>?_,fun j hj=>?_⟩)
 ·have h:lk (zw (SV.killB i) σ.sl) s=some v:=h
  rw [z24] at h
  obtain ⟨u,h1,rfl⟩:=Option.map_eq_some_iff.1 h
  exact ⟨u,h1,rfl⟩
 ·have h:lk (zw (fun b:Bx=>(⟨b.ty,b.c.killB i⟩:Bx)) (rm σ.bx i)) j=some b:=h
  rw [z24,z4z] at h
  obtain ⟨u,h1,rfl⟩:=Option.map_eq_some_iff.1 h
  split at h1
  ·cases h1
  ·exact ⟨u,h1,rfl⟩
 ·exact hu.rows j ((z6l i u).2.1 j hj)
 ·obtain ⟨h1,h2⟩:=(z6l i u).2.2 j hj
  obtain ⟨b,hb⟩:=hu.boxes j h1
  exact ⟨_,by show lk (zw _ (rm σ.bx i)) j=_; rw [z24,z4z,if_neg (fun e=>h2 e.symm),hb]; rfl⟩
theorem Rep.drops (l:List Nat):∀ {σ:St},Rep E w0 ok O σ tm w M→Rep E w0 ok O (l.foldl St.drop σ) tm w M:=by
 induction l with
 | nil=>exact fun R=>R
 | cons i l ih=>exact fun R=>ih (R.drop i)
theorem Rep.dropsB (l:List Nat):∀ {σ:St},Rep E w0 ok O σ tm w M→Rep E w0 ok O (l.foldl St.dropB σ) tm w M:=by
 induction l with
 | nil=>exact fun R=>R
 | cons i l ih=>exact fun R=>ih (R.dropB i)
theorem Rep.clean (R:Rep E w0 ok O σ tm w M) (d:Nat):Rep E w0 ok O (σ.clean d) tm w M:=by
 have R':=R.drops (σ.rows.filterMap (fun x=>bif Nat.beq (x.1 / 32) d then some x.1 else none))
 unfold St.clean
 simp only []
 split
 ·exact R'.dropB d
 ·exact R'
theorem Rep.fewer (R:Rep E w0 ok O σ tm w M) {sl:List (Nat×SV)} (h:∀ s v,lk sl s=some v→lk σ.sl s=some v):Rep E w0 ok O ⟨sl,σ.rows,σ.bx⟩ tm w M :=
 R.weaken (fun s v hs=>⟨⟨v,h s v hs,.same v⟩,⟨(R.liveS s v (h s v hs)).rows,(R.liveS s v (h s v hs)).boxes⟩⟩) (fun i r h=>h) (fun i b h=>⟨⟨b,h,rfl,.same _⟩,⟨(R.liveB i b h).rows,(R.liveB i b h).boxes⟩⟩)
theorem Rep.le (R:Rep E w0 ok O σ tm w M) (h:Le σ' σ) (hs:∀ s v,lk σ'.sl s=some v→Live σ' v) (hb:∀ i b,lk σ'.bx i=some b→Live σ' b.c):Rep E w0 ok O σ' tm w M :=
 R.weaken (fun s v hv=>⟨⟨v,h.sl s v hv,.same v⟩,hs s v hv⟩) h.rows (fun i b hv=>⟨⟨b,h.bx i b hv,rfl,.same _⟩,hb i b hv⟩)
theorem Rep.putUn (R:Rep E w0 ok O σ tm w M) {d:Option Tmp} (v:Value) (hb:inB d tm):Rep E w0 ok O (σ.put d .un) (z3l tm d v) w M:=by
 have h:=R.add (d:=0) (dst:=d) (nr:=[]) (nb:=[]) (by simp [St.fresh,z4h]) (ziw v) hb
 exact h
theorem Rep.putSkip (R:Rep E w0 ok O σ tm w M) {d:Option Tmp} (hb:inB d tm):Rep E w0 ok O (σ.put d (.tup .nl)) (z3l tm d undef) w M :=
 R.add (d:=0) (dst:=d) (nr:=[]) (nb:=[]) (by simp [St.fresh,z4h]) (Ext.pure (s:=.tup .nl) ⟨#[],rfl,rfl⟩ ⟨fun i hi=>by simp [SV.roots] at hi,fun i hi=>by simp [SV.boxes] at hi⟩) hb
theorem Rep.world (R:Rep E w0 ok O σ tm w M) {w':World} (h1:w'.heap=w.heap) (h2:w'.os=w.os) (h3:w'.tape=w.tape) (h4:w'.output=w.output):Rep E w0 ok O σ tm w' M where
 slots:=R.slots
 rows:=fun i r h=>by
  obtain ⟨l,k1,k2,k3,k4,k5⟩:=R.rows i r h
  exact ⟨l,k1,k2,z1t (fun k _=>by rw [h1]) k3,k4,fun hz=>z1u (fun k _=>by rw [h1]) (k5 hz)⟩
 boxes:=fun i b h=>by
  obtain ⟨cs,k1,k2,k3⟩:=R.boxes i b h
  exact ⟨cs,k1,by rw [h1]; exact k2,k3⟩
 rr:=R.rr
 bb:=R.bb
 rb:=R.rb
 ownR:=R.ownR
 ownB:=R.ownB
 okB:=R.okB
 liveS:=R.liveS
 liveB:=R.liveB
 kept:=⟨by rw [h2]; exact R.kept.os,by rw [h3]; exact R.kept.tape,by rw [h4]; exact R.kept.output,by rw [h1]; exact R.kept.size,fun k hk ho=>by rw [h1]; exact R.kept.block k hk ho⟩
 pin:=R.pin
 pinB:=R.pinB
end

def z25 (P:Program) (g:FuncId) (vs:Array Value) (w:World) (R:Value→World→Prop):Prop :=
 match (callFunc g vs).run P w with
 | .ok (.value v) w'=>R v w'
 | .ok (.enter f as) w'=>Calls P f as w' fun | .returned v,w''=>R v w'' | _,_=>False
 | .ok (.row row as) w'=>Rows P row as w' R
 | _=>False
theorem Calls.mono {P:Program} {f:FuncId} {args:Array Value} {w:World} {R R':Ending→World→Prop} (h:Calls P f args w R) (hr:∀ e w',R e w'→R' e w'):Calls P f args w R' :=
 fun cs=>let ⟨e,w',fr,r,s⟩:=h cs; ⟨e,w',fr,hr _ _ r,s⟩
theorem z25.upon {P:Program} {g:FuncId} {vs:Array Value} {w:World} {R:Value→World→Prop} (h:z25 P g vs w R) {o:Oper} {a:Act} {next:Act→World→Prop} {Q:Exit→Act→World→Prop}
  (hr:∀ v w',R v w'→next (a.put o.dst v) w'):o.upon P a next Q ((callFunc g vs).run P w):=by
 unfold z25 at h
 split at h
 ·rename_i v w' he; rw [he]; exact hr _ _ h
 ·rename_i f as w' he
  rw [he]
  refine Calls.mono h fun e w'' h=>?_
  cases e with
  | returned v=>exact hr _ _ h
  | panicked c=>exact h.elim
  | outgrown=>exact h.elim
 ·rename_i row as w' he
  rw [he]
  exact Rows.mono h hr
 ·exact h.elim

def z1z (w:World) (ok:Nat→Prop):List SVal→List Value→Prop
 | [],[]=>True
 | a::as,v::vs=>(∃ cs,Rd w ok a.t a.x cs∧z1f a.t v cs)∧z1z w ok as vs
 | _,_=>False
abbrev z6m (w:World) (as:List SVal) (vs:List Value):Prop:=z1z w (Lt w) as vs
theorem z1z.append {w:World} {ok:Nat→Prop}:∀ {as:List SVal} {vs:List Value} {bs:List SVal} {us:List Value},z1z w ok as vs→z1z w ok bs us→z1z w ok (as++bs) (vs++us)
 | [],[],_,_,_,h=>h
 | a::as,v::vs,_,_,h,k=>⟨h.1,z1z.append h.2 k⟩
theorem z1z.move {w w':World} {ok:Nat→Prop} (hb:∀ k,ok k→w'.heap[k]?=w.heap[k]?):∀ {as:List SVal} {vs:List Value},z1z w ok as vs→z1z w' ok as vs
 | [],[],_=>trivial
 | a::as,v::vs,h=>⟨by obtain ⟨cs,h1,h2⟩:=h.1; exact ⟨cs,h1.move hb,h2⟩,z1z.move hb h.2⟩
def zd9 (w:World) (ok:Nat→Prop) (t:Ty) (x:t.T) (v:Value) (w':World):Prop:=∃ cs,Rd w ok t x cs∧z1f t v cs∧Kept (fun _=>False) w w'
def zay (w:World) (ok:Nat→Prop) (ty:TypeId) (t:Ty) (x:t.T) (v:Value) (w':World):Prop:=∃ b cs,v=.pointer (some ⟨b,0,none⟩)∧w.heap.size≤b∧w'.heap[b]?=some (.cells (Array.mk cs) ty (0,0))∧Rd w ok t x cs∧Kept (fun _=>False) w w'
def Ret (w:World) (n:Nat) (t:Ty) (x:t.T) (v:Value) (w':World):Prop :=
 ∃ l:L t,erase t l=x∧(∀ F:Frz,holds F w' t l)∧plain w' t l∧(z6 t l).Nodup∧(∀ k∈z6 t l,w.heap.size≤k)∧zd6 n t l v∧Kept (fun _=>False) w w'

class Glob (P:Program) where
 /-- What the program's own tables hold, and the blocks that they lie in. -/
 ok:World→Prop
 blk:Nat→Prop
 lt:∀ w,ok w→∀ k,blk k→k<w.heap.size
 move:∀ w w',ok w→(∀ k,blk k→w'.heap[k]?=w.heap[k]?)→ok w'
def z5c (P:Program) [Glob P] (w0:World) (O:Nat→Prop):Prop:=Glob.ok P w0∧∀ k,Glob.blk P k→¬ O k
theorem z5c.now {P:Program} [Glob P] {w0 w:World} {O:Nat→Prop} (h:z5c P w0 O) (hk:Kept O w0 w):Glob.ok P w :=
 Glob.move w0 w h.1 fun k hb=>hk.block k (Glob.lt w0 h.1 k hb) (h.2 k hb)
theorem z5c.new {P:Program} [Glob P] {w0:World} (h:Glob.ok P w0):z5c P w0 (fun _=>False):=⟨h,fun _ _ h=>h⟩
structure SpecOK (P:Program) [Glob P] (E:Env) (w0:World) (O:Nat→Prop):Prop where
 rd:∀ g args n t r,E.call g args=some ⟨n,t,some r⟩→n<RON→∀ w vs,Kept O w0 w→z6m w args vs→z25 P g vs.toArray w (Ret w n t r)
 ro:∀ g args t r,E.call g args=some ⟨RON,t,some r⟩→∀ w ok vs,Kept O w0 w→(∀ k,ok k→k<w.heap.size)→z1z w ok args vs→z25 P g vs.toArray w (zd9 w ok t r)
 nb:∀ g args n t r,E.call g args=some ⟨n,t,some r⟩→RON<n→∀ w ok vs,Kept O w0 w→(∀ k,ok k→k<w.heap.size)→z1z w ok args vs→z25 P g vs.toArray w (zay w ok (n-NBN) t r)

theorem zvw {A B:Type} (h:A=B) (xs:List A):cast (congrArg List h) xs=xs.map (cast h):=by
 subst h
 induction xs with
 | nil=>rfl
 | cons x xs ih=>exact congrArg (x::·) ih
theorem zvx {A A' B B':Type} (h:A=A') (k:B=B') (e:(A×B)=(A'×B')) (x:A×B):cast e x=(cast h x.1,cast k x.2):=by
 subst h; subst k; rfl
theorem zmz (e:TypeId) (t:Ty) (xs:List t.T):z5x (.sl e t) xs=xs.map (z5x t):=zvw (z5w t).symm xs
theorem zvy (a b:Ty) (x:a.T×b.T):z5x (.pr a b) x=(z5x a x.1,z5x b x.2):=zvx (z5w a).symm (z5w b).symm _ x
theorem z6n {w:World} {ok:Nat→Prop}:∀ {t:Ty} {x:t.T} {cs:List Value},Rd w ok t x cs→Rd w ok t.strip (z5x t x) cs
 | .sl e t,xs,cs,h=>by
  rw [zmz]
  obtain ⟨A,c,rfl,hl,hr⟩:=h
  refine ⟨A,c,by rw [List.length_map],by rw [List.length_map]; exact hl,fun hne=>?_⟩
  obtain ⟨ad,rfl,hok,hx⟩:=hr (fun h=>hne (by rw [h]; rfl))
  refine ⟨ad,rfl,hok,fun i x hi=>?_⟩
  rw [List.getElem?_map,Option.map_eq_some_iff] at hi
  obtain ⟨y,hy,rfl⟩:=hi
  obtain ⟨ds,h1,h2⟩:=hx i y hy
  exact ⟨ds,z6n h1,by rw [z61]; exact h2⟩
 | .st t,x,cs,h=>z6n (t:=t) (x:=x) h
 | .pr a b,x,cs,h=>by
  rw [zvy]
  obtain ⟨c1,c2,rfl,h1,h2⟩:=h
  exact ⟨c1,c2,rfl,z6n h1,z6n h2⟩
 | .ptr t,x,cs,h=>by
  obtain ⟨ad,ds,rfl,hok,h1,h2⟩:=h
  exact ⟨ad,ds,rfl,hok,z6n (t:=t) (x:=x) h1,h2⟩
 | .fn g c,x,cs,h=>by
  obtain ⟨caps,rfl,h1⟩:=h
  exact ⟨caps,rfl,z6n (t:=c) (x:=x) h1⟩
 | .rd t,x,cs,h=>z6n (t:=t) (x:=x) h
 | .int _,_,_,h=>h
 | .fs _,_,_,h=>h
 | .bool,_,_,h=>h
 | .str,_,_,h=>h
 | .un,_,_,h=>h
theorem zvz {w:World} {ok:Nat→Prop} {v:SVal} {cs:List Value} (h:Rd w ok v.t v.x cs):Rd w ok v.strip.t v.strip.x cs:=by
 unfold SVal.strip
 cases v.t.bare||v.t.isRd
 ·exact z6n h
 ·exact h

theorem z1z.strip {w:World} {ok:Nat→Prop}:∀ {as:List SVal} {vs:List Value},z1z w ok as vs→z1z w ok (as.map SVal.strip) vs
 | [],[],_=>trivial
 | a::as,v::vs,h=>by
  refine ⟨?_,z1z.strip h.2⟩
  obtain ⟨cs,h1,h2⟩:=h.1
  refine ⟨cs,zvz h1,?_⟩
  unfold SVal.strip
  cases hb:a.t.bare||a.t.isRd
  ·have hn:∀ v,a.t≠.rd v:=fun v e=>by rw [e] at hb; simp [Ty.isRd] at hb
   unfold z1f
   simp only [cond_false]
   rw [zim hn]
   exact h2
  ·exact h2

section
variable {P : Program} {E : Env} {w0 : World} {ok O : Nat → Prop} {σ : St} {tm : Array Value} {w : World} {M : Map} {a : Act}

def zf7 (P:Program) (E:Env) (w0:World) (ok:Nat→Prop) (σ:St) (w:World) (M:Map) (a:Act) (o:Oper) (x:Out):Prop :=
 ∀ (next:Act→World→Prop) (Q:Exit→Act→World→Prop),(∀ v w' M',Ext E w0 ok σ w M x.1 x.2.1 x.2.2 v w' M'→next (a.put o.dst v) w')→o.wp P a w next Q
theorem z10.wp {o:Oper} {x:Out} (h:z10 P E w0 ok σ w M a o x):zf7 P E w0 ok σ w M a o x:=by
 intro next Q hn
 obtain ⟨v,w',M',h1,h2⟩:=h
 unfold Oper.wp
 rw [h1]
 exact hn v w' M' h2

theorem zf8 (R:Rep E w0 ok O σ tm w M) (hat:a.tmps=tm):∀ {l:List SV} {vs:List Value} {as:List SVal},zan E σ l=some as→l.length=vs.length→(∀ (i:Nat) s v,l[i]?=some s→vs[i]?=some v→zi w0 ok M s v)→z6m w as vs
 | [],[],as,h,_,_=>by cases h; trivial
 | s::l,v::vs,as,h,hl,hs=>by
  unfold zan at h
  simp only [z4s] at h
  rw [zy] at h
  obtain ⟨x,hx,h⟩:=Option.bind_eq_some_iff.1 h
  rw [z77] at h
  obtain ⟨xs,hxs,h⟩:=Option.bind_eq_some_iff.1 h
  cases h
  exact ⟨zm4 R hx (hs 0 s v rfl rfl),zf8 R hat hxs (by simpa using hl) (fun i s v h1 h2=>hs (i+1) s v h1 h2)⟩
 | [],_::_,_,_,hl,_=>by simp at hl
 | _::_,[],_,_,hl,_=>by simp at hl

theorem ziy:∀ {s:SV} {cs:List Value},s.caps.all SV.cap1=true→za w0 ok M s cs→s.caps.length=cs.length∧∀ (i:Nat) c v,s.caps[i]?=some c→cs[i]?=some v→zi w0 ok M c v
 | .no,cs,_,h=>by simp only [za] at h; subst h; exact ⟨rfl,by simp [SV.caps]⟩
 | .er b,cs,hk,h=>caps_one rfl hk h
 | .pr a b,cs,hk,h=>by
  obtain ⟨c1,c2,rfl,h1,h2⟩:=h
  simp only [SV.caps,List.all_cons,Bool.and_eq_true] at hk
  obtain ⟨⟨k1,k2⟩,k3⟩:(Nat.beq a.w 1=true∧(!a.isSt)=true)∧_:=by simpa [SV.cap1] using hk
  have e1:=za.len h1
  rw [Nat.eq_of_beq_eq_true k1] at e1
  obtain ⟨g1,g2⟩:=ziy (s:=b) (by simpa [SV.cap1] using k3) h2
  match c1,e1 with
  | [u],_ =>
   refine ⟨by simp [SV.caps,g1],fun i c v hc hv=>?_⟩
   cases i with
   | zero =>
    simp [SV.caps] at hc hv
    subst hc; subst hv
    exact z1m h1 (.inr ⟨by simpa using k2,rfl⟩)
   | succ i =>
    simp only [SV.caps,List.getElem?_cons_succ,List.cons_append,List.nil_append] at hc hv
    exact g2 i c v hc hv
 | .val t x,cs,hk,h=>caps_one rfl hk h
 | .ref i p,cs,hk,h=>caps_one rfl hk h
 | .vw i p n,cs,hk,h=>caps_one rfl hk h
 | .ls i,cs,hk,h=>caps_one rfl hk h
 | .st s,cs,hk,h=>caps_one rfl hk h
 | .bp i p o,cs,hk,h=>caps_one rfl hk h
 | .ep i p n f o,cs,hk,h=>caps_one rfl hk h
 | .lp i n,cs,hk,h=>caps_one rfl hk h
 | .clo g c,cs,hk,h=>caps_one rfl hk h
 | .un,cs,hk,h=>caps_one rfl hk h
 | .tup s,cs,hk,h=>h.elim
 | .cns s r,cs,hk,h=>h.elim
 | .nl,cs,hk,h=>h.elim
where
 caps_one {s:SV} {cs:List Value} (he:s.caps=[s]) (hk:s.caps.all SV.cap1=true) (h:za w0 ok M s cs):s.caps.length=cs.length∧∀ (i:Nat) c v,s.caps[i]?=some c→cs[i]?=some v→zi w0 ok M c v:=by
  rw [he] at hk ⊢
  simp only [List.all_cons,List.all_nil,Bool.and_true,SV.cap1,Bool.and_eq_true] at hk
  have e1:=za.len h
  rw [Nat.eq_of_beq_eq_true hk.1] at e1
  match cs,e1 with
  | [u],_ =>
   refine ⟨rfl,fun i c v hc hv=>?_⟩
   cases i with
   | zero =>
    simp at hc hv
    subst hc; subst hv
    exact z1m h (.inr ⟨by simpa using hk.2,rfl⟩)
   | succ i=>simp at hc

theorem ziz {w:World} {ok:Nat→Prop}:∀ {t:Ty} {x:t.T} {cs:List Value},(z8v t x).all SVal.cap1=true→Rd w ok t x cs→z1z w ok (z8v t x) cs
 | .un,x,cs,_,h=>by simp only [Rd] at h; subst h; trivial
 | .pr a b,x,cs,hk,h=>by
  obtain ⟨c1,c2,rfl,h1,h2⟩:=h
  simp only [z8v,List.all_cons,Bool.and_eq_true] at hk
  obtain ⟨⟨k1,k2⟩,k3⟩:(Nat.beq a.sz 1=true∧(!a.isSt)=true)∧_:=by simpa [SVal.cap1] using hk
  have e1:=Rd.len h1
  rw [Nat.eq_of_beq_eq_true k1] at e1
  have:=ziz (t:=b) (x:=x.2) (by simpa [SVal.cap1] using k3) h2
  match c1,e1 with
  | [u],_=>exact ⟨⟨[u],h1,.inr ⟨by simpa using k2,rfl⟩⟩,this⟩
 | .int k,x,cs,hk,h=>one (t:=.int k) hk h
 | .bool,x,cs,hk,h=>one (t:=.bool) hk h
 | .str,x,cs,hk,h=>one (t:=.str) hk h
 | .sl e t,x,cs,hk,h=>one (t:=.sl e t) hk h
 | .st t,x,cs,hk,h=>one (t:=.st t) hk h
 | .ptr t,x,cs,hk,h=>one (t:=.ptr t) hk h
 | .fn g c,x,cs,hk,h=>one (t:=.fn g c) hk h
 | .fs ids,x,cs,hk,h=>one (t:=.fs ids) hk h
 | .rd t,x,cs,hk,h=>one (t:=.rd t) hk h
where
 one {t:Ty} {x:t.T} {cs:List Value} (hk:[(⟨t,x⟩:SVal)].all SVal.cap1=true) (h:Rd w ok t x cs):z1z w ok [⟨t,x⟩] cs:=by
  simp only [List.all_cons,List.all_nil,Bool.and_true,SVal.cap1,Bool.and_eq_true] at hk
  have e1:=Rd.len h
  rw [Nat.eq_of_beq_eq_true hk.1] at e1
  match cs,e1 with
  | [u],_=>exact ⟨⟨[u],h,.inr ⟨by simpa using hk.2,rfl⟩⟩,trivial⟩

theorem Ret.ext {n:Nat} {t:Ty} {x:t.T} {v:Value} {w':World} (h:Ret w n t x v w') (k:Nat):∃ M',Ext E w0 ok σ w M (newT n t x k).1 (newT n t x k).2 [] v w' M':=by
 obtain ⟨l,rfl,h2,h3,h4,h5,h6,h7⟩:=h
 exact Ext.newT k h7 (h2 _) h3 h4 h5 h6

theorem zf9 (R:Rep E w0 ok O σ tm w M):∀ {l:List SV} {vs:List Value} {as:List SVal},zan E σ l=some as→l.length=vs.length→(∀ (i:Nat) s v,l[i]?=some s→vs[i]?=some v→zi w0 ok M s v)→l.all SV.isV=true→z1z w0 ok as vs
 | [],[],as,h,_,_,_=>by cases h; trivial
 | s::l,v::vs,as,h,hl,hs,hv=>by
  unfold zan at h
  simp only [z4s] at h
  rw [zy] at h
  obtain ⟨x,hx,h⟩:=Option.bind_eq_some_iff.1 h
  rw [z77] at h
  obtain ⟨xs,hxs,h⟩:=Option.bind_eq_some_iff.1 h
  cases h
  simp only [List.all_cons,Bool.and_eq_true] at hv
  refine ⟨?_,zf9 R hxs (by simpa using hl) (fun i s v h1 h2=>hs (i+1) s v h1 h2) hv.2⟩
  match s,hv.1 with
  | .val t y,_ =>
   obtain ⟨cs,h1,h2⟩:=hs 0 _ v rfl rfl
   have hx:res E σ depth (.val t y)=some x:=hx
   have:x=⟨t,y⟩:=by
    have h3:res E σ depth (.val t y)=some ⟨t,y⟩:=rfl
    rw [h3] at hx
    exact (Option.some.inj hx).symm
   subst this
   refine ⟨cs,h1,?_⟩
   unfold z2h at h2
   rw [z66] at h2
   exact h2
 | [],_::_,_,_,hl,_,_=>by simp at hl
 | _::_,[],_,_,hl,_,_=>by simp at hl

theorem zfa {w0:World} {ok:Nat→Prop} {M:Map}:∀ {t:Ty} {x:t.T} {cs:List Value},Rd w0 ok t x cs→za w0 ok M (z5k t x) cs
 | .st t,x,cs,h=>zfa (t:=t) (x:=x) h
 | .pr a b,x,cs,h=>by
  obtain ⟨c1,c2,rfl,h1,h2⟩:=h
  exact ⟨c1,c2,rfl,zfa h1,zfa h2⟩
 | .int _,_,_,h=>h
 | .bool,_,_,h=>h
 | .str,_,_,h=>h
 | .sl _ _,_,_,h=>h
 | .ptr _,_,_,h=>h
 | .un,_,_,h=>h
 | .fn _ _,_,_,h=>h
 | .fs _,_,_,h=>h
 | .rd _,_,_,h=>h
theorem zw0 (t:Ty) (x:t.T):(z5k t x).isCh=false:=by cases t <;> rfl
theorem zfb:∀ (t:Ty) (x:t.T),(z5k t x).roots=[]∧(z5k t x).boxes=[]
 | .st t,x=>zfb t x
 | .pr a b,x=>by
  obtain ⟨h1,h2⟩:=zfb a x.1
  obtain ⟨h3,h4⟩:=zfb b x.2
  simp only [z5k,SV.roots,SV.boxes,h1,h2,h3,h4]
  exact ⟨rfl,rfl⟩
 | .int _,_=>⟨rfl,rfl⟩
 | .bool,_=>⟨rfl,rfl⟩
 | .str,_=>⟨rfl,rfl⟩
 | .sl _ _,_=>⟨rfl,rfl⟩
 | .ptr _,_=>⟨rfl,rfl⟩
 | .un,_=>⟨rfl,rfl⟩
 | .fn _ _,_=>⟨rfl,rfl⟩
 | .fs _,_=>⟨rfl,rfl⟩
 | .rd _,_=>⟨rfl,rfl⟩
theorem zj0 [Glob P] (R:Rep E w0 ok O σ tm w M) (S:SpecOK P E w0 O) {o:Oper} {g:FuncId} {args:List SVal} {vo:Bool} {vs:List Value} {out:Out} (h:zcr E g args vo (zp o)=some out) (ha:z6m w args vs) (hav:vo=true→z1z w0 ok args vs) (hrun:(execOp a.eval o).run P w=(callFunc g vs.toArray).run P w):zf7 P E w0 ok σ w M a o out:=by
 unfold zcr z8w at h
 split at h
 ·rename_i n t v hc
  cases v with
  | none =>
   exfalso
   cases hro:Nat.beq n RON <;> cases hnb:Nat.blt RON n <;> cases vo <;> rw [hro] at h <;> simp only [hnb,cond_true,cond_false] at h <;> cases h
  | some r =>
   cases hro:Nat.beq n RON <;> rw [hro] at h
   ·have hne:n≠RON:=fun e=>by rw [e] at hro; simp at hro
    cases hnb:Nat.blt RON n <;> simp only [hnb,cond_true,cond_false] at h
    ·cases h
     intro next Q hn
     unfold Oper.wp
     rw [hrun]
     refine (S.rd g _ n t r hc (by
      have:¬ RON<n:=fun h=>by rw [show Nat.blt RON n=true from Nat.ble_eq_true_of_le h] at hnb; cases hnb
      omega) w vs R.kept ha.strip).upon fun v w' hr=>?_
     obtain ⟨M',hx⟩:=hr.ext (E:=E) (w0:=w0) (ok:=ok) (σ:=σ) (M:=M) (32*zp o)
     exact hn v w' M' hx
    ·cases vo with
     | false=>cases h
     | true =>
      cases h
      intro next Q hn
      unfold Oper.wp
      rw [hrun]
      have hmv:∀ k,ok k→w.heap[k]?=w0.heap[k]?:=fun k hk=>R.kept.block k (R.okB k hk).1 (R.okB k hk).2
      refine (S.nb g _ n t r hc (Nat.le_of_ble_eq_true hnb) w ok vs R.kept (fun k hk=>R.ok_lt hk) ((hav rfl).move hmv).strip).upon fun v w' hr=>?_
      obtain ⟨b,cs,rfl,h2,h3,h4,h5⟩:=hr
      have h4:=h4.move fun k hk=>(hmv k hk).symm
      refine hn _ w' ⟨M.loc,z2j M.blk (zp o) b,M.bn,M.bw⟩ ⟨z1m (s:=.bp (zp o) [] 0) (cs:=[.pointer (some ⟨b,0,none⟩)]) (by simp only [za]; rw [z1n]) (.inr ⟨rfl,rfl⟩),h5,fun _ _=>rfl,fun i hi=>⟨z35 _ _ (fun e=>by subst e; simp [lk] at hi),rfl,rfl⟩,fun i r h=>(nomatch h),fun i j _ ⟨r,h⟩=>(nomatch h),fun i b' h=>?_,fun i j ⟨x,hx⟩ ⟨y,hy⟩=>by rw [(z3m hx).1,(z3m hy).1],fun i j ⟨r,h⟩=>(nomatch h),
       ⟨by simp [SV.roots],fun i hi=>.inr ?_⟩,fun i b' h=>?_⟩
      ·obtain ⟨rfl,rfl⟩:=z3m h
       have eb:(⟨M.loc,z2j M.blk (zp o) b,M.bn,M.bw⟩:Map).blk (zp o)=b:=z1n _ _ _
       exact ⟨cs,zu (zfa h4),(by rw [eb]; exact h3),(fun hc=>absurd hc (by show ¬ (z5k t r).isCh=true; rw [zw0]; simp)),(by rw [eb]; exact h2)⟩
      ·simp [SV.boxes] at hi
       subst hi
       exact ⟨_,by rw [zn,if_pos rfl]⟩
      ·obtain ⟨rfl,rfl⟩:=z3m h
       obtain ⟨e1,e2⟩:=zfb t r
       have e1:(Bx.mk (n-NBN) (z5k t r)).c.roots=[]:=e1
       have e2:(Bx.mk (n-NBN) (z5k t r)).c.boxes=[]:=e2
       exact ⟨fun i hi=>absurd hi (by rw [e1]; simp),fun i hi=>absurd hi (by rw [e2]; simp)⟩
   ·have:=Nat.eq_of_beq_eq_true hro
    subst this
    cases vo with
    | false=>cases h
    | true =>
     cases h
     intro next Q hn
     unfold Oper.wp
     rw [hrun]
     have hmv:∀ k,ok k→w.heap[k]?=w0.heap[k]?:=fun k hk=>R.kept.block k (R.okB k hk).1 (R.okB k hk).2
     refine (S.ro g _ t r hc w ok vs R.kept (fun k hk=>R.ok_lt hk) ((hav rfl).move hmv).strip).upon fun v w' hr=>?_
     obtain ⟨cs,h1,h2,h3⟩:=hr
     refine hn v w' M ⟨z1m (s:=.val t r) (h1.move fun k hk=>(hmv k hk).symm) (by unfold z2h; rw [z66]; exact h2),h3,fun _ _=>rfl,fun _ _=>⟨rfl,rfl,rfl⟩,fun i r h=>(nomatch h),fun i j _ ⟨r,h⟩=>(nomatch h),fun i b h=>(nomatch h),fun i j ⟨r,h⟩=>(nomatch h),fun i j ⟨r,h⟩=>(nomatch h),
      ⟨by simp [SV.roots],by simp [SV.boxes]⟩,fun i b h=>(nomatch h)⟩
 ·cases h

theorem zw1 [Glob P] (R:Rep E w0 ok O σ tm w M) (hat:a.tmps=tm) (S:SpecOK P E w0 O) {o:Oper} {f:Operand} {args:Array Operand} {ts:Array TypeId} (hop:o.op=.call ⟨.value f,args,ts⟩) {out:Out} (h:ze E σ o=some out):zf7 P E w0 ok σ w M a o out:=by
 unfold ze z12 at h
 rw [hop] at h
 simp only [] at h
 have hrun:∀ {g:FuncId} {caps:Array Value},a.eval f=.func (.func g) #[] caps→(execOp a.eval o).run P w=(callFunc g ((args.toList.map a.eval)++caps.toList).toArray).run P w:=by
  intro g caps hf
  unfold execOp
  rw [hop]
  simp only [resolve,hf,Deferred.ofValue,Sem.run_bind,Sem.run_pure,Result.andThen_ok,invoke]
  congr 2
  apply Array.ext'
  simp
 split at h
 ·rename_i g cs l hf hl
  cases hk:cs.caps.all SV.cap1 <;> rw [hk] at h
  ·cases h
  ·simp only [cond_true] at h
   rw [z77] at h
   obtain ⟨as,has,h⟩:=Option.bind_eq_some_iff.1 h
   obtain ⟨e1,e2⟩:=z7b R hat hl
   obtain ⟨⟨c,⟨caps,hc,hcr⟩,hw⟩,_⟩:=zz R hat hf
   subst hc
   have hv:a.eval f=.func (.func g) #[] caps:=by
    rcases hw with ⟨h5,_⟩ | ⟨_,h5⟩
    ·cases h5
    ·simp only [List.cons.injEq,and_true] at h5; exact h5.symm
   obtain ⟨g1,g2⟩:=ziy hk hcr
   have hss:∀ (i:Nat) s v,(l++cs.caps)[i]?=some s→((args.toList.map a.eval)++caps.toList)[i]?=some v→zi w0 ok M s v:=by
    intro i s v hs hv
    by_cases hi:i<l.length
    ·rw [List.getElem?_append_left hi] at hs
     rw [List.getElem?_append_left (by rw [List.length_map,← e1]; exact hi),List.getElem?_map,Option.map_eq_some_iff] at hv
     obtain ⟨x,hx,rfl⟩:=hv
     exact (e2 i x s hx hs).1
    ·rw [List.getElem?_append_right (by omega)] at hs
     rw [List.getElem?_append_right (by rw [List.length_map,← e1]; omega),List.length_map,← e1] at hv
     exact g2 _ s v hs hv
   exact zj0 R S h (zf8 R hat has (by simp [e1,g1]) hss) (fun hvo=>zf9 R has (by simp [e1,g1]) hss hvo) (hrun hv)
 ·rename_i g ct cx l hf hl
  cases hk:(z8v ct cx).all SVal.cap1 <;> rw [hk] at h
  ·cases h
  ·simp only [cond_true] at h
   rw [z77] at h
   obtain ⟨as,has,h⟩:=Option.bind_eq_some_iff.1 h
   obtain ⟨e1,e2⟩:=z7b R hat hl
   obtain ⟨v,hv,hr⟩:=z4l R hat hf rfl
   have hr0:=hr
   have hr':=(R.rd hr).mono (ok':=Lt w) fun k hk=>R.ok_lt hk
   obtain ⟨caps,hc,hcr⟩:=hr'
   cases hc
   obtain ⟨caps',hc',hcr0⟩:=hr0
   cases hc'
   have hss:∀ (i:Nat) s v,l[i]?=some s→(args.toList.map a.eval)[i]?=some v→zi w0 ok M s v:=by
    intro i s v hs hv
    rw [List.getElem?_map,Option.map_eq_some_iff] at hv
    obtain ⟨x,hx,rfl⟩:=hv
    exact (e2 i x s hx hs).1
   exact zj0 R S h ((zf8 R hat has (by simp [e1]) hss).append (ziz hk hcr)) (fun hvo=>(zf9 R has (by simp [e1]) hss hvo).append (ziz hk hcr0)) (hrun hv)
 ·rename_i ids g l hf hl
  rw [z77] at h
  obtain ⟨as,has,h⟩:=Option.bind_eq_some_iff.1 h
  obtain ⟨e1,e2⟩:=z7b R hat hl
  obtain ⟨v,hv,hr⟩:=z4l R hat hf rfl
  obtain ⟨hc,_⟩:=hr
  simp only [List.cons.injEq,and_true] at hc
  subst hc
  have hss:∀ (i:Nat) s v,l[i]?=some s→(args.toList.map a.eval)[i]?=some v→zi w0 ok M s v:=by
   intro i s v hs hv
   rw [List.getElem?_map,Option.map_eq_some_iff] at hv
   obtain ⟨x,hx,rfl⟩:=hv
   exact (e2 i x s hx hs).1
  have key:∀ ids:List FuncId,z8x E g as (l.all SV.isV) (zp o) (fun a b c=>some (a,b,c)) ids=some out→zcr E g as (l.all SV.isV) (zp o)=some out:=by
   intro ids
   induction ids with
   | nil=>intro h; cases h
   | cons q ids ih =>
    intro h
    simp only [z8x] at h
    split at h
    ·rename_i e; subst e; exact h
    ·exact ih h
  have hr2:=hrun hv
  simp only [List.append_nil] at hr2
  exact zj0 R S (key ids h) (zf8 R hat has (by simp [e1]) hss) (fun hvo=>zf9 R has (by simp [e1]) hss hvo) hr2
 ·cases h

theorem zn0 (R:Rep E w0 ok O σ tm w M) (hat:a.tmps=tm) {b:Builtin} {mx:Bool} (hb:(b=.max∧mx=true)∨(b=.min∧mx=false)) {o:Oper} {args:Array Operand} {ts:Array TypeId} (hop:o.op=.call ⟨.builtin b,args,ts⟩) {out:Out} (h:ze E σ o=some out):z10 P E w0 ok σ w M a o out:=by
 have main:∀ {i j:IntKind} {x y:Int},z4t σ args.toList=some [.val (.int i) x,.val (.int j) y]→∀ z:Int,(∀ (ts:Array TypeId) (t:TypeId) (cc:Array Bool),(builtin b ts t cc #[.int i x,.int j y]).run P w=.ok (.value (.int i z)) w)→z10 P E w0 ok σ w M a o (.val (.int i) z,[],[]):=by
  intro i j x y hl z hz
  obtain ⟨e1,e2⟩:=z7b R hat hl
  obtain ⟨p,q,ha⟩:∃ p q,args=#[p,q]:=by
   match hq:args.toList,e1 with
   | [p,q],_=>exact ⟨p,q,by apply Array.ext'; rw [hq]⟩
  subst ha
  have h1:=(e2 0 p _ rfl rfl).1
  have h2:=(e2 1 q _ rfl rfl).1
  have v1:a.eval p=.int i x:=by
   obtain ⟨cs,hc,hw⟩:=h1
   simp only [za,Rd] at hc
   subst hc
   rcases hw with ⟨h5,_⟩ | ⟨_,h5⟩
   ·cases h5
   ·simp only [List.cons.injEq,and_true] at h5; exact h5.symm
  have v2:a.eval q=.int j y:=by
   obtain ⟨cs,hc,hw⟩:=h2
   simp only [za,Rd] at hc
   subst hc
   rcases hw with ⟨h5,_⟩ | ⟨_,h5⟩
   ·cases h5
   ·simp only [List.cons.injEq,and_true] at h5; exact h5.symm
  refine z10.val (t:=.int i) (v:=.int i z) rfl rfl ?_
  unfold execOp
  rw [hop]
  simp only [resolve,Sem.run_bind,Sem.run_pure,Result.andThen_ok,invoke]
  have:(#[p,q].map a.eval)=#[.int i x,.int j y]:=by simp [v1,v2]
  rw [this]
  exact hz _ _ _
 unfold ze z12 at h
 rw [hop] at h
 rcases hb with ⟨rfl,rfl⟩ | ⟨rfl,rfl⟩
 ·simp only [] at h
  split at h
  ·rename_i i x j y hl
   split at h
   ·rename_i hij
    cases h
    refine main hl _ fun ts t cc=>?_
    simp only [builtin,Sem.run_bind,run_max_int2,Result.andThen_ok,Sem.run_pure,gt_iff_lt]
   ·cases h
  ·cases h
 ·simp only [] at h
  split at h
  ·rename_i i x j y hl
   split at h
   ·rename_i hij
    cases h
    refine main hl _ fun ts t cc=>?_
    simp only [builtin,Sem.run_bind,run_min_int2,Result.andThen_ok,Sem.run_pure]
   ·cases h
  ·cases h

theorem zn1 [Glob P] (R:Rep E w0 ok O σ tm w M) (hat:a.tmps=tm) (T:zb P E.ti=true) (EQ:z1v P E) (S:SpecOK P E w0 O) {o:Oper} {out:Out} (h:ze E σ o=some out) {d:Nat} (hf:σ.fresh d out.2.1 out.2.2=true):zf7 P E w0 ok σ w M a o out:=by
 cases hop:o.op with
 | move x=>exact (zm6 R hat T (.inl hop) h).wp
 | assign x=>exact (zm6 R hat T (.inr hop) h).wp
 | pick c x y=>exact (zuz R hat hop h).wp
 | unOp op t x=>exact (zv0 R hat hop h).wp
 | binOp op t x y u=>exact (zv1 R hat T EQ hop h).wp
 | convert t u x=>exact (zv4 R hat T hop h).wp
 | makeFunc fn first caps=>exact (zv7 R hat hop h).wp
 | extract x i=>exact (zv5 R hat hop h).wp
 | nilCheck x=>exact (zm9 R hat hop h).wp
 | fieldAddr t x i=>exact (zmb R hat T hop h).wp
 | field t x i=>exact (zv9 R hat T hop h).wp
 | indexAddr t x y=>exact (zmc R hat T hop h).wp
 | index t x y=>exact (zvb R hat T hop h).wp
 | load t x=>exact (zvf R hat T hop h).wp
 | slice t x lo hi mx=>exact (zmh R hat T hop h).wp
 | box t x=>exact (zvh R hat T hop h hf).wp
 | alloc t=>exact (zvk R hat T hop h hf).wp
 | build t parts=>exact (zvt R hat T hop h hf).wp
 | buildSlice t n parts=>exact (zvv R hat T hop h hf).wp
 | makeSlice t x y=>exact (zvn R hat T hop h).wp
 | call c =>
  obtain ⟨callee,args,ts⟩:=c
  cases callee with
  | value f=>exact zw1 R hat S hop h
  | builtin b =>
   cases b with
   | len=>exact (zvl R hat T hop h).wp
   | max=>exact (zn0 R hat (.inl ⟨rfl,rfl⟩) hop h).wp
   | min=>exact (zn0 R hat (.inr ⟨rfl,rfl⟩) hop h).wp
   | _=>simp only [ze,z12,hop] at h; cases h
  | invoke r n=>simp only [ze,z12,hop] at h; cases h
 | _=>simp only [ze,z12,hop] at h; cases h
end

section
variable {P : Program} {E : Env} {w0 : World} {ok O : Nat → Prop} {σ σ' : St} {tm : Array Value} {w : World} {M : Map} {a : Act}

theorem z9a:∀ {t:Ty} {x:t.T} {cs:List Value},t.flat=true→Rd w0 ok t x cs→∃ l:L t,erase t l=x∧z8 t l=cs∧z6 t l=[]∧∀ (F:Frz) w,holds F w t l∧plain w t l
 | .int _,x,cs,_,h=>⟨x,rfl,by simp only [Rd] at h; rw [h]; rfl,rfl,fun F w=>⟨trivial,trivial⟩⟩
 | .bool,x,cs,_,h=>⟨x,rfl,by simp only [Rd] at h; rw [h]; rfl,rfl,fun F w=>⟨trivial,trivial⟩⟩
 | .str,x,cs,_,h=>⟨x,rfl,by simp only [Rd] at h; rw [h]; rfl,rfl,fun F w=>⟨trivial,trivial⟩⟩
 | .st t,x,cs,hf,h=>by
  obtain ⟨l,h1,h2,h3,h4⟩:=z9a (t:=t) (x:=x) hf h
  exact ⟨l,h1,h2,h3,h4⟩
 | .pr a b,x,cs,hf,h=>by
  simp only [Ty.flat,Bool.and_eq_true] at hf
  obtain ⟨c1,c2,rfl,h1,h2⟩:=h
  obtain ⟨l1,e1,e2,e3,e4⟩:=z9a hf.1 h1
  obtain ⟨l2,g1,g2,g3,g4⟩:=z9a hf.2 h2
  exact ⟨(l1,l2),by simp [erase,e1,g1],by simp [z8,e2,g2],by simp [z6,e3,g3],fun F w=>⟨⟨(e4 F w).1,(g4 F w).1⟩,⟨(e4 F w).2,(g4 F w).2⟩⟩⟩
 | .sl _ _,_,_,h,_=>by cases h
 | .ptr _,_,_,h,_=>by cases h
 | .un,_,_,h,_=>by cases h
 | .fn _ _,_,_,h,_=>by cases h
 | .fs _,_,_,h,_=>by cases h
 | .rd _,_,_,h,_=>by cases h

structure Free (w0:World) (ok O:Nat→Prop) (σ:St) (M:Map) (bs:List Nat):Prop where
 nd:bs.Nodup
 own:∀ k∈bs,¬ ok k∧(O k∨w0.heap.size≤k)
 rows:∀ i,(∃ r,lk σ.rows i=some r)→∀ k∈bs,k∉z6 (M.loc i).1 (M.loc i).2
 bx:∀ i,(∃ b,lk σ.bx i=some b)→M.blk i∉bs
def z4b (σ:St) (M:Map) (bs:List Nat):Prop:=∀ k∈bs,(∃ i,(∃ r,lk σ.rows i=some r)∧k∈z6 (M.loc i).1 (M.loc i).2)∨∃ i,(∃ b,lk σ.bx i=some b)∧k=M.blk i
structure Sub (σ' σ:St):Prop where
 rows:∀ i r,lk σ'.rows i=some r→lk σ.rows i=some r
 bx:∀ i b,lk σ'.bx i=some b→∃ b0,lk σ.bx i=some b0

theorem Sub.refl (σ:St):Sub σ σ:=⟨fun _ _ h=>h,fun _ b h=>⟨b,h⟩⟩
theorem Sub.trans {a b c:St} (h:Sub a b) (k:Sub b c):Sub a c:=⟨fun i r hr=>k.rows i r (h.rows i r hr),fun i b hb=>by obtain ⟨b0,h0⟩:=h.bx i b hb; exact k.bx i b0 h0⟩
theorem Sub.drop (σ:St) (i:Nat):Sub (σ.drop i) σ:=⟨fun j r h=>by
  have h:lk (rm σ.rows i) j=some r:=h
  rw [z4z] at h
  split at h
  ·cases h
  ·exact h,fun j b h=>by
  have h:lk (zw (fun b:Bx=>(⟨b.ty,b.c.kill i⟩:Bx)) σ.bx) j=some b:=h
  rw [z24] at h
  obtain ⟨u,h1,_⟩:=Option.map_eq_some_iff.1 h
  exact ⟨u,h1⟩⟩
theorem Sub.dropB (σ:St) (i:Nat):Sub (σ.dropB i) σ:=⟨fun j r h=>h,fun j b h=>by
  have h:lk (zw (fun b:Bx=>(⟨b.ty,b.c.killB i⟩:Bx)) (rm σ.bx i)) j=some b:=h
  rw [z24,z4z] at h
  obtain ⟨u,h1,_⟩:=Option.map_eq_some_iff.1 h
  split at h1
  ·cases h1
  ·exact ⟨u,h1⟩⟩
theorem zn2 {σ:St} {i j:Nat} (h:∃ r,lk (σ.drop i).rows j=some r):j≠i:=by
 rintro rfl
 obtain ⟨r,h⟩:=h
 have h:lk (rm σ.rows j) j=some r:=h
 rw [z4z,if_pos rfl] at h
 cases h
theorem zfc {σ:St} {i j:Nat} (h:∃ r,lk (σ.dropB i).bx j=some r):j≠i:=by
 rintro rfl
 obtain ⟨r,h⟩:=h
 have h:lk (zw (fun b:Bx=>(⟨b.ty,b.c.killB j⟩:Bx)) (rm σ.bx j)) j=some r:=h
 rw [z24,z4z,if_pos rfl] at h
 cases h
theorem Free.sub {bs:List Nat} (h:Free w0 ok O σ M bs) (k:Sub σ' σ):Free w0 ok O σ' M bs :=
 ⟨h.nd,h.own,fun i ⟨r,hr⟩=>h.rows i ⟨r,k.rows i r hr⟩,fun i ⟨b,hb⟩=>h.bx i (k.bx i b hb)⟩
theorem Free.nil:Free w0 ok O σ M []:=⟨List.nodup_nil,by simp,by simp,by simp⟩
theorem z4b.nil:z4b σ M []:=by intro k hk; cases hk
theorem Free.sublist {bs bs':List Nat} (h:Free w0 ok O σ M bs) (k:bs'.Sublist bs):Free w0 ok O σ M bs' :=
 ⟨k.nodup h.nd,fun i hi=>h.own i (k.subset hi),fun i hr j hj=>h.rows i hr j (k.subset hj),fun i hb hj=>h.bx i hb (k.subset hj)⟩
theorem Free.append {bs cs:List Nat} {σ1:St} (h:Free w0 ok O σ1 M bs) (k:Free w0 ok O σ' M cs) (hs:Sub σ' σ1) (hf:z4b σ1 M cs):Free w0 ok O σ' M (bs++cs) where
 nd:=List.nodup_append.2 ⟨h.nd,k.nd,fun a ha b hb e=>by
  subst e
  rcases hf a hb with ⟨i,hi,hk⟩ | ⟨i,hi,hk⟩
  ·exact h.rows i hi a ha hk
  ·exact h.bx i hi (hk▸ha)⟩
 own:=fun i hi=>(List.mem_append.1 hi).elim (h.own i) (k.own i)
 rows:=fun i hi j hj=>(List.mem_append.1 hj).elim ((h.sub hs).rows i hi j) (k.rows i hi j)
 bx:=fun i hi hj=>(List.mem_append.1 hj).elim ((h.sub hs).bx i hi) (k.bx i hi)
theorem z4b.append {bs cs:List Nat} {σ1:St} (h:z4b σ M bs) (k:z4b σ1 M cs) (hs:Sub σ1 σ):z4b σ M (bs++cs):=by
 intro j hj
 rcases List.mem_append.1 hj with hj | hj
 ·exact h j hj
 ·rcases k j hj with ⟨i,⟨r,hr⟩,hk⟩ | ⟨i,⟨b,hb⟩,hk⟩
  ·exact .inl ⟨i,⟨r,hs.rows i r hr⟩,hk⟩
  ·exact .inr ⟨i,hs.bx i b hb,hk⟩
theorem z4b.sub {bs:List Nat} (h:z4b σ' M bs) (k:Sub σ' σ):z4b σ M bs:=by
 intro j hj
 rcases h j hj with ⟨i,⟨r,hr⟩,hk⟩ | ⟨i,⟨b,hb⟩,hk⟩
 ·exact .inl ⟨i,⟨r,k.rows i r hr⟩,hk⟩
 ·exact .inr ⟨i,k.bx i b hb,hk⟩

structure Eaten (E:Env) (w0:World) (ok O:Nat→Prop) (σ σ':St) (tm:Array Value) (w:World) (M:Map) (bs:List Nat):Prop where
 rep:Rep E w0 ok O σ' tm w M
 free:Free w0 ok O σ' M bs
 src:z4b σ M bs
 sub:Sub σ' σ

theorem zw2 {F:Frz} {w:World} {e:TypeId} {t:Ty} {l:L (.sl e t)} (n:Nat) (h:holds F w (.sl e t) l) (hp:plain w (.sl e t) l) :
  ∃ l':L (.sl e t),l'=(l.1,l.2.1,l.2.2.take n)∧holds F w (.sl e t) l'∧plain w (.sl e t) l'∧(z6 (.sl e t) l').Sublist (z6 (.sl e t) l):=by
 refine ⟨_,rfl,⟨?_,fun y hy=>h.2 y (List.mem_of_mem_take hy)⟩,⟨hp.1,fun y hy=>hp.2 y (List.mem_of_mem_take hy)⟩,?_⟩
 ·have h1:=h.1
  simp only []
  cases hx:l.1 with
  | none=>rw [hx] at h1; simp only [h1.1,List.take_nil]; exact ⟨trivial,h1.2⟩
  | some b =>
   rw [hx] at h1
   obtain ⟨cur,fz,hc,hl,hm,hsz,htk,hfz⟩:=h1
   have hle:(l.2.2.take n).length≤l.2.2.length:=by rw [List.length_take]; omega
   refine ⟨cur,fz,hc,by omega,hm,hsz,?_,.inl ?_⟩
   ·have hmul:(l.2.2.take n).length*t.sz≤l.2.2.length*t.sz:=Nat.mul_le_mul_right _ hle
    have:cur.toList.take ((l.2.2.take n).length*t.sz)=(cur.toList.take (l.2.2.length*t.sz)).take ((l.2.2.take n).length*t.sz):=by
     rw [List.take_take,Nat.min_eq_left hmul]
    rw [this,htk]
    have e2:l.2.2.flatMap (z8 t)=(l.2.2.take n).flatMap (z8 t)++(l.2.2.drop n).flatMap (z8 t):=by
     rw [← List.flatMap_append,List.take_append_drop]
    rw [e2,List.take_left' (by rw [z1l])]
   ·obtain ⟨cur',e',hc',_⟩:=hp.1 b hx
    rw [hc] at hc'
    cases hc'
    rfl
 ·simp only [z6]
  refine List.Sublist.append (List.Sublist.refl _) ?_
  have key:∀ (xs:List (L t)) (n:Nat),((xs.take n).flatMap (z6 t)).Sublist (xs.flatMap (z6 t)):=by
   intro xs n
   conv=>rhs; rw [← List.take_append_drop n xs,List.flatMap_append]
   exact List.sublist_append_left _ _
  exact key _ _

def zn3 {R:Type} (E:Env) (ec:St→SV→(St→(t:Ty)→t.T→Option R)→Option R) (r:R):Prop :=
 ∀ (w0:World) (ok O:Nat→Prop) (σ:St) (tm:Array Value) (w:World) (M:Map) (s:SV) (cs:List Value) (k:St→(t:Ty)→t.T→Option R),Rep E w0 ok O σ tm w M→za w0 ok M s cs→ec σ s k=some r →
  ∃ (σ':St) (t:Ty) (l:L t),k σ' t (erase t l)=some r∧holds (Rd w0 ok) w t l∧plain w t l∧z8 t l=cs∧s.isSt=t.isSt∧Eaten E w0 ok O σ σ' tm w M (z6 t l)

theorem zn4 {R:Type} {ec:St→SV→(St→(t:Ty)→t.T→Option R)→Option R} {r:R} (hec:zn3 E ec r) (t:Ty):∀ {s:SV} {σ:St} {cs:List Value} {k:St→List t.T→Option R},Rep E w0 ok O σ tm w M→z1e w0 ok M s cs→zed ec t σ s k=some r →
  ∃ (σ':St) (ls:List (L t)),k σ' (ls.map (erase t))=some r∧(∀ l∈ls,holds (Rd w0 ok) w t l∧plain w t l)∧ls.flatMap (z8 t)=cs∧ls.length=s.count∧s.isCh=true∧Eaten E w0 ok O σ σ' tm w M (ls.flatMap (z6 t))
 | .nl,σ,cs,k,R,hs,h=>by
  simp only [z1e] at hs
  subst hs
  exact ⟨σ,[],h,by simp,rfl,rfl,rfl,R,Free.nil,z4b.nil,Sub.refl σ⟩
 | .cns x y,σ,cs,k,R,hs,h=>by
  obtain ⟨c1,c2,rfl,h1,h2⟩:=hs
  simp only [zed] at h
  obtain ⟨σ1,u,l,h3,h4,h5,h6,h7,h8⟩:=hec w0 ok O σ tm w M x c1 _ R h1 h
  unfold zf at h3
  split at h3
  ·rename_i e
   subst e
   obtain ⟨σ2,ls,g1,g2,g3,g4,g5,g6⟩:=zn4 hec u (s:=y) h8.rep h2 h3
   refine ⟨σ2,l::ls,g1,?_,by simp [h6,g3],by simp [g4,SV.count],rfl,g6.rep,?_,?_,g6.sub.trans h8.sub⟩
   ·intro z hz
    rcases List.mem_cons.1 hz with rfl | hz
    ·exact ⟨h4,h5⟩
    ·exact g2 z hz
   ·rw [List.flatMap_cons]
    exact h8.free.append g6.free g6.sub g6.src
   ·rw [List.flatMap_cons]
    exact h8.src.append g6.src h8.sub
  ·cases h3
 | .val _ _,_,_,_,_,_,h=>by cases h
 | .ref _ _,_,_,_,_,_,h=>by cases h
 | .vw _ _ _,_,_,_,_,_,h=>by cases h
 | .ls _,_,_,_,_,_,h=>by cases h
 | .st _,_,_,_,_,_,h=>by cases h
 | .pr _ _,_,_,_,_,_,h=>by cases h
 | .bp _ _ _,_,_,_,_,_,h=>by cases h
 | .ep _ _ _ _ _,_,_,_,_,_,h=>by cases h
 | .lp _ _,_,_,_,_,_,h=>by cases h
 | .clo _ _,_,_,_,_,_,h=>by cases h
 | .tup _,_,_,_,_,_,h=>by cases h
 | .no,_,_,_,_,_,h=>by cases h
 | .er _,_,_,_,_,_,h=>by cases h
 | .un,_,_,_,_,_,h=>by cases h

theorem z5d {R:Type} {r:R}:∀ d,zn3 (R:=R) E (z2q E d) r
 | 0=>fun w0 ok O σ tm w M s cs k _ _ h=>by cases h
 | d+1=>by
  intro w0 ok O σ tm w M s cs k R hs h
  cases s with
  | val t x =>
   simp only [z2q] at h
   cases hf:t.flat <;> rw [hf] at h
   ·cases h
   ·obtain ⟨l,rfl,h2,h3,h4⟩:=z9a hf hs
    exact ⟨σ,t,l,h,(h4 _ w).1,(h4 (fun _ _ _=>False) w).2,h2,z66 _ _,R,by rw [h3]; exact Free.nil,by rw [h3]; exact z4b.nil,Sub.refl σ⟩
  | ref i p =>
   cases p with
   | cons x p=>cases h
   | nil =>
    simp only [z2q] at h
    split at h
    ·rename_i row hr
     cases hz:row.z <;> rw [hz] at h
     ·obtain ⟨l,h1,h2,h3,h4,h5⟩:=R.rows i row hr
      obtain ⟨e,t,l',h6,rfl⟩:=hs
      rw [h1,z2y] at h6
      cases h6
      simp only [cond_false,← h2] at h
      refine ⟨σ.drop i,.sl row.e row.t,l,h,h3,h5 hz,rfl,rfl,R.drop i,⟨h4,fun k hk=>?_,fun j hj k hk=>?_,fun j hj hk=>?_⟩,fun k hk=>.inl ⟨i,⟨row,hr⟩,by rw [h1]; exact hk⟩,Sub.drop σ i⟩
      ·have:=R.ownR i ⟨row,hr⟩ k (by rw [h1]; exact hk)
       exact this
      ·have hne:=zn2 hj
       obtain ⟨r',hr'⟩:=hj
       exact R.rr i j (fun e=>hne e.symm) ⟨row,hr⟩ ⟨r',(Sub.drop σ i).rows j r' hr'⟩ k (by rw [h1]; exact hk)
      ·obtain ⟨b,hb⟩:=hj
       obtain ⟨b0,hb0⟩:=(Sub.drop σ i).bx j b hb
       exact R.rb i j ⟨row,hr⟩ ⟨b0,hb0⟩ (by rw [h1]; exact hk)
     ·cases h
    ·cases h
  | vw i lo n =>
   cases lo with
   | succ lo=>cases h
   | zero =>
    simp only [z2q] at h
    split at h
    ·rename_i row hr
     cases hz:row.z <;> rw [hz] at h
     ·obtain ⟨l,h1,h2,h3,h4,h5⟩:=R.rows i row hr
      obtain ⟨e,t,l',h6,h7,A,c,rfl,hc,hA⟩:=hs
      rw [h1] at h6
      cases h6
      obtain ⟨l',hl',k1,k2,k3⟩:=zw2 n h3 (h5 hz)
      have he:erase (.sl row.e row.t) l'=row.xs.take n:=by rw [← h2,hl']; simp [erase,List.map_take]
      simp only [cond_false,← he] at h
      have hF:Free w0 ok O (σ.drop i) M (z6 (.sl row.e row.t) l):=⟨h4,fun k hk=>R.ownR i ⟨row,hr⟩ k (by rw [h1]; exact hk),fun j hj k hk=>by
        have hne:=zn2 hj
        obtain ⟨r',hr'⟩:=hj
        exact R.rr i j (fun e=>hne e.symm) ⟨row,hr⟩ ⟨r',(Sub.drop σ i).rows j r' hr'⟩ k (by rw [h1]; exact hk),fun j hj hk=>by
        obtain ⟨b,hb⟩:=hj
        obtain ⟨b0,hb0⟩:=(Sub.drop σ i).bx j b hb
        exact R.rb i j ⟨row,hr⟩ ⟨b0,hb0⟩ (by rw [h1]; exact hk)⟩
      refine ⟨σ.drop i,.sl row.e row.t,l',h,k1,k2,?_,rfl,R.drop i,hF.sublist k3,fun k hk=>.inl ⟨i,⟨row,hr⟩,by rw [h1]; exact k3.subset hk⟩,Sub.drop σ i⟩
      rw [hA (.inr rfl),hl']
      simp only [z8,List.length_take,Nat.zero_mul]
      have:min n l.2.2.length=n:=by omega
      rw [this,← hc,Nat.add_zero]
     ·cases h
    ·cases h
  | ls i =>
   simp only [z2q] at h
   split at h
   ·rename_i b hb
    simp only [za] at hs
    subst hs
    obtain ⟨cs',h1,h2,h3⟩:=R.boxes i b hb
    obtain ⟨σ2,ls,g1,g2,g3,g4,g5,g6⟩:=zn4 (z5d d) (E.tyOf b.ty) (s:=b.c) (R.dropB i) h1 h
    obtain ⟨h4,h5,h6⟩:=h3 g5
    have hlen:cs'.length=ls.length*(E.tyOf b.ty).sz:=by rw [← g3,z1l]
    have hnot:M.blk i∉ls.flatMap (z6 (E.tyOf b.ty)):=by
     intro hk
     rcases g6.src _ hk with ⟨j,⟨r',hr'⟩,hj⟩ | ⟨j,hj,hk2⟩
     ·exact R.rb j i ⟨r',hr'⟩ ⟨b,hb⟩ hj
     ·have hne:=zfc hj
      obtain ⟨b1,hb1⟩:=hj
      exact R.bb i j (fun e=>hne e.symm) ⟨b,hb⟩ ((Sub.dropB σ i).bx j b1 hb1) hk2
    have hsub:Sub σ2 σ:=g6.sub.trans (Sub.dropB σ i)
    refine ⟨σ2,.sl b.ty (E.tyOf b.ty),(some (M.blk i),M.bn i,ls),g1,⟨⟨cs'.toArray,(0,0),h2,?_,?_,?_,?_,.inl rfl⟩,fun y hy=>(g2 y hy).1⟩,⟨fun q hq=>?_,fun y hy=>(g2 y hy).2⟩,?_,rfl,g6.rep,⟨?_,fun k hk=>?_,fun j hj k hk=>?_,fun j hj hk=>?_⟩,fun k hk=>?_,hsub⟩
    ·simp only [g4,h4]; exact Nat.le_refl _
    ·simp only [h4,maxLen]; omega
    ·simp only [h4,List.size_toArray,hlen,g4]; exact Nat.le_refl _
    ·simp only []
     rw [← hlen,List.take_length,g3]
    ·cases hq
     exact ⟨_,_,h2,by simp only [List.size_toArray,hlen,g4,h4]⟩
    ·simp only [z8,Option.map_some,g4,h4]
    ·simp only [z6,Option.toList_some,List.singleton_append]
     exact List.nodup_cons.2 ⟨hnot,g6.free.nd⟩
    ·simp only [z6,Option.toList_some,List.singleton_append,List.mem_cons] at hk
     rcases hk with rfl | hk
     ·exact R.ownB i ⟨b,hb⟩
     ·exact g6.free.own k hk
    ·simp only [z6,Option.toList_some,List.singleton_append,List.mem_cons] at hk
     rcases hk with rfl | hk
     ·obtain ⟨r',hr'⟩:=hj
      exact R.rb j i ⟨r',hsub.rows j r' hr'⟩ ⟨b,hb⟩
     ·exact g6.free.rows j hj k hk
    ·simp only [z6,Option.toList_some,List.singleton_append,List.mem_cons] at hk
     rcases hk with hk | hk
     ·obtain ⟨b1,hb1⟩:=hj
      obtain ⟨b2,hb2⟩:=g6.sub.bx j b1 hb1
      have hne:=zfc ⟨b2,hb2⟩
      exact R.bb j i hne ((Sub.dropB σ i).bx j b2 hb2) ⟨b,hb⟩ hk
     ·exact g6.free.bx j hj hk
    ·simp only [z6,Option.toList_some,List.singleton_append,List.mem_cons] at hk
     rcases hk with rfl | hk
     ·exact .inr ⟨i,⟨b,hb⟩,rfl⟩
     ·exact (g6.src.sub (Sub.dropB σ i)) k hk
   ·cases h
  | st s =>
   simp only [z2q] at h
   obtain ⟨σ',t,l,h1,h2,h3,h4,h5,h6⟩:=z5d d w0 ok O σ tm w M s cs _ R hs h
   exact ⟨σ',.st t,l,h1,h2,h3,h4,rfl,h6⟩
  | pr x y =>
   simp only [z2q] at h
   obtain ⟨c1,c2,rfl,k1,k2⟩:=hs
   obtain ⟨σ1,t,l,h1,h2,h3,h4,h5,h6⟩:=z5d d w0 ok O σ tm w M x c1 _ R k1 h
   obtain ⟨σ2,u,l',g1,g2,g3,g4,g5,g6⟩:=z5d d w0 ok O σ1 tm w M y c2 _ h6.rep k2 h1
   exact ⟨σ2,.pr t u,(l,l'),g1,⟨h2,g2⟩,⟨h3,g3⟩,by simp [z8,h4,g4],rfl,g6.rep,h6.free.append g6.free g6.sub g6.src,h6.src.append g6.src h6.sub,g6.sub.trans h6.sub⟩
  | bp i p o=>cases h
  | ep i p n f o=>cases h
  | lp i n=>cases h
  | clo g c=>cases h
  | tup s=>cases h
  | cns x y=>cases h
  | nl=>cases h
  | no=>cases h
  | er b=>cases h
  | un=>cases h
end

section
variable {P : Program} {E E' : Env} {w0 w1 : World} {ok ok1 O O1 : Nat → Prop} {σ σ' : St} {tm tm' : Array Value} {w w' : World} {M M' : Map} {a : Act}

theorem z3d (H:∀ (t:Ty) (x:t.T) (cs:List Value),Rd w0 ok t x cs→Rd w1 ok1 t x cs):∀ {s:SV} {cs:List Value},za w0 ok M s cs→za w1 ok1 M s cs
 | .val t x,cs,h=>H t x cs h
 | .ref _ _,_,h=>h
 | .vw _ _ _,_,h=>h
 | .ls _,_,h=>h
 | .st s,cs,h=>z3d H (s:=s) h
 | .pr a b,cs,h=>by
  obtain ⟨c1,c2,rfl,h1,h2⟩:=h
  exact ⟨c1,c2,rfl,z3d H h1,z3d H h2⟩
 | .bp _ _ _,_,h=>h
 | .ep _ _ _ _ _,_,h=>h
 | .lp _ _,_,h=>h
 | .clo g c,cs,h=>by
  obtain ⟨caps,rfl,h1⟩:=h
  exact ⟨caps,rfl,z3d H h1⟩
 | .no,_,h=>h
 | .er _,_,h=>h
 | .un,_,h=>h
 | .tup _,_,h=>h.elim
 | .cns _ _,_,h=>h.elim
 | .nl,_,h=>h.elim
theorem zaz (H:∀ (t:Ty) (x:t.T) (cs:List Value),Rd w0 ok t x cs→Rd w1 ok1 t x cs) {s:SV}:∀ {cs:List Value},z1e w0 ok M s cs→z1e w1 ok1 M s cs:=by
 induction s with
 | cns a b iha ihb=>intro cs h; obtain ⟨c1,c2,rfl,h1,h2⟩:=h; exact ⟨c1,c2,rfl,z3d H h1,ihb h2⟩
 | nl=>intro cs h; exact h
 | val t x=>intro cs h; exact zu (z3d H (s:=.val t x) h)
 | ref i p=>intro cs h; exact zu (z3d H (s:=.ref i p) h)
 | vw i a b=>intro cs h; exact zu (z3d H (s:=.vw i a b) h)
 | ls i=>intro cs h; exact zu (z3d H (s:=.ls i) h)
 | st s _=>intro cs h; exact zu (z3d H (s:=.st s) h)
 | pr a b _ _=>intro cs h; exact zu (z3d H (s:=.pr a b) h)
 | bp i p o=>intro cs h; exact zu (z3d H (s:=.bp i p o) h)
 | ep i p n f o=>intro cs h; exact zu (z3d H (s:=.ep i p n f o) h)
 | lp i n=>intro cs h; exact zu (z3d H (s:=.lp i n) h)
 | clo g s _=>intro cs h; exact zu (z3d H (s:=.clo g s) h)
 | no=>intro cs h; exact h
 | er b=>intro cs h; exact h
 | un=>intro cs h; exact h
 | tup s _=>intro cs h; exact h.elim
theorem zw3 (H:∀ (t:Ty) (x:t.T) (cs:List Value),Rd w0 ok t x cs→Rd w1 ok1 t x cs) {s:SV}:∀ {vs:List Value},z2d w0 ok M s vs→z2d w1 ok1 M s vs:=by
 induction s with
 | cns a b iha ihb=>intro vs h; obtain ⟨v,vs',rfl,⟨cs,h1,h3⟩,h2⟩:=h; exact ⟨v,vs',rfl,⟨cs,z3d H h1,h3⟩,ihb h2⟩
 | nl=>intro vs h; exact h
 | _=>intro vs h; exact h.elim
theorem zda (H:∀ (t:Ty) (x:t.T) (cs:List Value),Rd w0 ok t x cs→Rd w1 ok1 t x cs) {s:SV} {v:Value} (hs:zi w0 ok M s v):zi w1 ok1 M s v:=by
 rcases z34 hs with rfl | ⟨c,vs,rfl,rfl,h1⟩ | ⟨cs,h1,h2⟩
 ·trivial
 ·exact ⟨vs,rfl,zw3 H h1⟩
 ·exact z1m (z3d H h1) h2

theorem Rep.rebase (R:Rep E w0 ok O σ tm w M) {bs:List Nat} (hf:Free w0 ok O σ M bs) (hl:∀ k∈bs,k<w.heap.size) :
  Based w0 ok O w (fun k=>ok k∨k∈bs) (fun k=>(O k∨w0.heap.size≤k)∧k∉bs)∧Rep E w (fun k=>ok k∨k∈bs) (fun k=>(O k∨w0.heap.size≤k)∧k∉bs) σ tm w M:=by
 have B:Based w0 ok O w (fun k=>ok k∨k∈bs) (fun k=>(O k∨w0.heap.size≤k)∧k∉bs) :=
  ⟨R.kept,fun k h=>.inl h,R.okB,fun k h=>h.1,fun k h=>h.elim .inl fun hk=>.inr (hf.own k hk).2⟩
 have H:∀ (t:Ty) (x:t.T) (cs:List Value),Rd w0 ok t x cs→Rd w (fun k=>ok k∨k∈bs) t x cs:=fun _ _ _ h=>B.rd h
 refine ⟨B,?_⟩
 constructor
 ·intro s v h
  obtain ⟨u,h1,h2⟩:=R.slots s v h
  exact ⟨u,h1,zda H h2⟩
 ·intro i r h
  obtain ⟨l,h1,h2,h3,h4⟩:=R.rows i r h
  exact ⟨l,h1,h2,z5v H h3,h4⟩
 ·intro i b h
  obtain ⟨cs,h1,h2⟩:=R.boxes i b h
  exact ⟨cs,zaz H h1,h2⟩
 ·exact R.rr
 ·exact R.bb
 ·exact R.rb
 ·intro i hi k hk
  have h:=R.ownR i hi k hk
  have hn:k∉bs:=fun hb=>hf.rows i hi k hb hk
  exact ⟨fun ho=>ho.elim h.1 hn,.inl ⟨h.2,hn⟩⟩
 ·intro i hi
  have h:=R.ownB i hi
  have hn:M.blk i∉bs:=hf.bx i hi
  exact ⟨fun ho=>ho.elim h.1 hn,.inl ⟨h.2,hn⟩⟩
 ·rintro k (hk | hk)
  ·obtain ⟨h1,h2⟩:=R.okB k hk
   exact ⟨Nat.lt_of_lt_of_le h1 R.kept.size,fun h=>h.1.elim h2 fun h=>absurd h1 (Nat.not_lt.2 h)⟩
  ·exact ⟨hl k hk,fun h=>h.2 hk⟩
 ·exact R.liveS
 ·exact R.liveB
 ·exact Kept.refl _ _
 ·exact R.pin
 ·exact R.pinB

def zn5 {R:Type} (E:Env) (fc:St→SV→(St→(t:Ty)→t.T→Option R)→Option R) (r:R):Prop :=
 ∀ (w0:World) (ok O:Nat→Prop) (σ:St) (tm:Array Value) (w:World) (M:Map) (s:SV) (cs:List Value) (k:St→(t:Ty)→t.T→Option R),Rep E w0 ok O σ tm w M→za w0 ok M s cs→fc σ s k=some r →
  ∃ (σ':St) (t:Ty) (x:t.T) (ok1 O1:Nat→Prop),Based w0 ok O w ok1 O1∧k σ' t x=some r∧Rd w ok1 t x cs∧s.isSt=t.isSt∧Rep E w ok1 O1 σ' tm w M
theorem zb0 {R:Type} {r:R}:∀ d,zn5 (R:=R) E (z6g E d) r
 | 0=>fun w0 ok O σ tm w M s cs k _ _ h=>by cases h
 | d+1=>by
  intro w0 ok O σ tm w M s cs k R hs h
  cases s with
  | val t x =>
   obtain ⟨B,R1⟩:=R.rebase (Free.nil (σ:=σ) (M:=M)) (by simp)
   exact ⟨σ,t,x,_,_,B,h,B.rd hs,z66 _ _,R1⟩
  | ref i p =>
   cases p with
   | cons x p=>cases h
   | nil =>
    simp only [z6g] at h
    split at h
    ·rename_i row hr
     cases hz:row.z <;> rw [hz] at h
     ·have h':z2q E (d+1) σ (.ref i []) (fun σ t x=>some (σ,SVal.mk t x))=some (σ.drop i,⟨.sl row.e row.t,row.xs⟩):=by simp only [z2q,hr,hz,cond_false]
      obtain ⟨σ1,t,l,g1,g2,g3,g4,g5,g6⟩:=z5d (d+1) w0 ok O σ tm w M _ cs _ R hs h'
      have g1:=Option.some.inj g1
      injection g1 with e1 e2
      subst e1
      injection e2 with e3 e4
      subst e3
      have e4:=eq_of_heq e4
      obtain ⟨B,R1⟩:=g6.rep.rebase g6.free (fun k hk=>z1d g2 k hk)
      have hrd:=z6f (F:=Rd w0 ok) (fun t x cs h=>B.rd h) (fun k hk=>.inr hk) g2
      rw [g4,e4] at hrd
      exact ⟨_,_,_,_,_,B,h,z6n hrd,rfl,R1⟩
     ·cases h
    ·cases h
  | st s =>
   simp only [z6g] at h
   obtain ⟨σ',t,x,ok1,O1,B,h1,h2,h3,h4⟩:=zb0 d w0 ok O σ tm w M s cs _ R hs h
   exact ⟨σ',.st t,x,ok1,O1,B,h1,h2,rfl,h4⟩
  | pr x y =>
   simp only [z6g] at h
   obtain ⟨c1,c2,rfl,k1,k2⟩:=hs
   obtain ⟨σ1,t,u,ok1,O1,B1,h1,h2,h3,h4⟩:=zb0 d w0 ok O σ tm w M x c1 _ R k1 h
   obtain ⟨σ2,t2,u2,ok2,O2,B2,g1,g2,g3,g4⟩:=zb0 d w ok1 O1 σ1 tm w M y c2 _ h4 (z3d (fun _ _ _ h=>B1.rd h) k2) h1
   exact ⟨σ2,.pr t t2,(u,u2),ok2,O2,B1.trans B2,g1,⟨c1,c2,rfl,B2.rd h2,g2⟩,rfl,g4⟩
  | _=>cases h
def rdL {w:World} {ok:Nat→Prop} {t:Ty} {x:t.T} {cs:List Value} (h:Rd w ok t x cs):L (.rd t):=⟨(x,cs),Rd.len h,Rd.one h⟩
theorem zj1 {R:Type} {r:R} {fc:St→SV→(St→(t:Ty)→t.T→Option R)→Option R} (hec:zn5 E fc r) (t:Ty):∀ {s:SV} {w0:World} {ok O:Nat→Prop} {σ:St} {cs:List Value} {k:St→List t.T→Option R},Rep E w0 ok O σ tm w M→z1e w0 ok M s cs→zcf fc t σ s k=some r →
  ∃ (σ':St) (ls:List (L (.rd t))) (ok1 O1:Nat→Prop),Based w0 ok O w ok1 O1∧k σ' (ls.map (erase (.rd t)))=some r∧(∀ l∈ls,Rd w ok1 t l.1.1 l.1.2)∧ls.flatMap (z8 (.rd t))=cs∧ls.length=s.count∧s.isCh=true∧Rep E w ok1 O1 σ' tm w M
 | .nl,w0,ok,O,σ,cs,k,R,hs,h=>by
  simp only [z1e] at hs
  subst hs
  obtain ⟨B,R1⟩:=R.rebase (Free.nil (σ:=σ) (M:=M)) (by simp)
  exact ⟨σ,[],_,_,B,h,by simp,rfl,rfl,rfl,R1⟩
 | .cns x y,w0,ok,O,σ,cs,k,R,hs,h=>by
  obtain ⟨c1,c2,rfl,h1,h2⟩:=hs
  simp only [zcf] at h
  obtain ⟨σ1,u,z,ok1,O1,B1,h3,h4,h5,h6⟩:=hec w0 ok O σ tm w M x c1 _ R h1 h
  unfold zf at h3
  split at h3
  ·rename_i e
   subst e
   obtain ⟨σ2,ls,ok2,O2,B2,g1,g2,g3,g4,g5,g6⟩:=zj1 hec u (s:=y) h6 (zaz (fun _ _ _ h=>B1.rd h) h2) h3
   refine ⟨σ2,rdL h4::ls,ok2,O2,B1.trans B2,g1,?_,?_,by simp [g4,SV.count],rfl,g6⟩
   ·intro l hl
    rcases List.mem_cons.1 hl with rfl | hl
    ·exact B2.rd h4
    ·exact g2 l hl
   ·rw [List.flatMap_cons,g3]; rfl
  ·cases h3
 | .val _ _,_,_,_,_,_,_,_,_,h=>by cases h
 | .ref _ _,_,_,_,_,_,_,_,_,h=>by cases h
 | .vw _ _ _,_,_,_,_,_,_,_,_,h=>by cases h
 | .ls _,_,_,_,_,_,_,_,_,h=>by cases h
 | .st _,_,_,_,_,_,_,_,_,h=>by cases h
 | .pr _ _,_,_,_,_,_,_,_,_,h=>by cases h
 | .bp _ _ _,_,_,_,_,_,_,_,_,h=>by cases h
 | .ep _ _ _ _ _,_,_,_,_,_,_,_,_,h=>by cases h
 | .lp _ _,_,_,_,_,_,_,_,_,h=>by cases h
 | .clo _ _,_,_,_,_,_,_,_,_,h=>by cases h
 | .tup _,_,_,_,_,_,_,_,_,h=>by cases h
 | .no,_,_,_,_,_,_,_,_,h=>by cases h
 | .er _,_,_,_,_,_,_,_,_,h=>by cases h
 | .un,_,_,_,_,_,_,_,_,h=>by cases h
end

def z2k (u t:Ty) (y:L u):Option (L t):=if h:u=t then some (cast (by rw [h]) y) else none
def zg:(t:Ty)→L t→List Step→(u:Ty)→L u→Option (L t)
 | .sl e t,x,p,u,y=>match p with
  | []=>z2k u (.sl e t) y
  | .ix n::p=>(x.2.2[n]?).bind fun z=>(zg t z p u y).map fun z'=>(x.1,x.2.1,x.2.2.set n z')
  | .f _::_=>none
  | .u::_=>none
 | .st t,x,p,u,y=>match p with
  | []=>if h:u=.st t then some (cast (by rw [h]) y) else z2k u t y
  | .u::p=>zg t x p u y
  | s::p=>zg t x (s::p) u y
 | .pr a b,x,p,u,y=>match p with
  | []=>z2k u (.pr a b) y
  | .f false::p=>(zg a x.1 p u y).map fun z=>(z,x.2)
  | .f true::p=>(zg b x.2 p u y).map fun z=>(x.1,z)
  | .ix _::_=>none
  | .u::_=>none
 | .int k,x,p,u,y=>match p with | []=>z2k u (.int k) y | _::_=>none
 | .bool,x,p,u,y=>match p with | []=>z2k u .bool y | _::_=>none
 | .str,x,p,u,y=>match p with | []=>z2k u .str y | _::_=>none
 | .un,x,p,u,y=>match p with | []=>z2k u .un y | _::_=>none
 | .rd t,x,p,u,y=>match p with | []=>z2k u (.rd t) y | _::_=>none

theorem z7g {u t:Ty} {y:L u} {x:L t} (h:z2k u t y=some x):∃ e:u=t,x=e▸y:=by
 unfold z2k at h
 split at h
 ·rename_i e; subst e; cases h; exact ⟨rfl,rfl⟩
 ·cases h
theorem z89 {R:Type} (u t:Ty) (y:L u) (k:t.T→Option R):zf u t (erase u y) k=(z2k u t y).bind fun x=>k (erase t x):=by
 unfold zf z2k
 by_cases h:u=t
 ·subst h; simp
 ·rw [dif_neg h,dif_neg h]; rfl

theorem z7h {R:Type}:∀ (t:Ty) (x:L t) (p:List Step) (u:Ty) (y:L u) (k:t.T→Option R),z5i t (erase t x) p u (erase u y) k=(zg t x p u y).bind fun x'=>k (erase t x')
 | .sl e t,x,p,u,y,k=>by
  match p with
  | []=>exact z89 u (.sl e t) y k
  | .f _::_=>rfl
  | .u::_=>rfl
  | .ix n::p =>
   show ((x.2.2.map (erase t))[n]?).bind _=((x.2.2[n]?).bind _).bind _
   rw [List.getElem?_map,Option.bind_map,Option.bind_assoc]
   congr 1
   funext z
   refine (z7h t z p u y _).trans ?_
   rw [Option.bind_map]
   congr 1
   funext z'
   show k ((x.2.2.map (erase t)).set n (erase t z'))=k ((x.2.2.set n z').map (erase t))
   rw [List.map_set]
 | .st t,x,p,u,y,k=>by
  match p with
  | [] =>
   show (if h:u=.st t then k (h▸erase u y) else zf u t (erase u y) k)=(if h:u=.st t then some (cast (by rw [h]) y) else z2k u t y).bind _
   by_cases h:u=.st t
   ·subst h; simp
   ·rw [dif_neg h,dif_neg h]; exact z89 u t y k
  | .u::p=>exact z7h t x p u y k
  | .ix n::p=>exact z7h t x (.ix n::p) u y k
  | .f b::p=>exact z7h t x (.f b::p) u y k
 | .pr a b,x,p,u,y,k=>by
  match p with
  | []=>exact z89 u (.pr a b) y k
  | .ix _::_=>rfl
  | .u::_=>rfl
  | .f false::p =>
   show z5i a (erase a x.1) p u (erase u y) _=((zg a x.1 p u y).map _).bind _
   rw [z7h a x.1 p u y,Option.bind_map]
   rfl
  | .f true::p =>
   show z5i b (erase b x.2) p u (erase u y) _=((zg b x.2 p u y).map _).bind _
   rw [z7h b x.2 p u y,Option.bind_map]
   rfl
 | .int _,x,p,u,y,k=>by match p with | []=>exact z89 u (.int _) y k | _::_=>rfl
 | .bool,x,p,u,y,k=>by match p with | []=>exact z89 u .bool y k | _::_=>rfl
 | .str,x,p,u,y,k=>by match p with | []=>exact z89 u .str y k | _::_=>rfl
 | .un,x,p,u,y,k=>by match p with | []=>exact z89 u .un y k | _::_=>rfl
 | .rd t,x,p,u,y,k=>by match p with | []=>exact z89 u (.rd _) y k | _::_=>rfl

structure Put1 (w:World) (t:Ty) (x:L t) (f:List Bool) (u:Ty) (y:L u) (x':L t) (v:Ty) (z:L v):Prop where
 sub:zr t x (f.map z3i)=some ⟨v,z⟩
 cells:∃ a c,z8 t x=a++z8 v z++c∧z8 t x'=a++z8 u y++c∧a.length=t.offP f
 sz:v.sz=u.sz
 ho:∀ F:Frz,holds F w t x→holds F w u y→holds F w t x'
 pl:plain w t x→plain w u y→plain w t x'
 bl:∃ A C,z6 t x=A++z6 v z++C∧z6 t x'=A++z6 u y++C
 fl:u.flat=true→v.flat=true

theorem Put1.cast {w:World} {t u:Ty} {x x':L t} {y:L u} (hs:zr t x []=some ⟨t,x⟩) (h:z2k u t y=some x'):∃ v z,Put1 w t x [] u y x' v z:=by
 obtain ⟨e,he⟩:=z7g h
 subst e
 subst he
 exact ⟨u,x,hs,⟨[],[],by simp,by simp,(zct u).symm⟩,rfl,fun _ _ h=>h,fun _ h=>h,⟨[],[],by simp,by simp⟩,fun h=>h⟩
theorem zb1 (w:World):∀ (t:Ty) (x:L t) (f:List Bool) (u:Ty) (y:L u) (x':L t),zg t x (f.map z3i) u y=some x'→∃ v z,Put1 w t x f u y x' v z
 | .sl e t,x,f,u,y,x',h=>by
  match f with
  | []=>exact Put1.cast rfl h
  | _::_=>cases h
 | .st t,x,f,u,y,x',h=>by
  match f with
  | [] =>
   have h:(if h:u=.st t then some (cast (by rw [h]) y) else z2k u t y)=some x':=h
   by_cases e:u=.st t
   ·subst e
    simp at h
    subst h
    exact ⟨.st t,x,rfl,⟨[],[],by simp,by simp,(zct _).symm⟩,rfl,fun _ _ h=>h,fun _ h=>h,⟨[],[],by simp,by simp⟩,fun h=>h⟩
   ·rw [dif_neg e] at h
    obtain ⟨e2,he⟩:=z7g h
    subst e2
    subst he
    exact ⟨.st u,x,rfl,⟨[],[],by simp,by simp [z8],(zct _).symm⟩,rfl,fun _ _ h=>h,fun _ h=>h,⟨[],[],by simp,by simp [z6]⟩,fun h=>h⟩
  | s::f =>
   obtain ⟨v,z,h1⟩:=zb1 w t x (s::f) u y x' h
   exact ⟨v,z,h1.sub,h1.cells,h1.sz,h1.ho,h1.pl,h1.bl,h1.fl⟩
 | .pr a b,x,f,u,y,x',h=>by
  match f with
  | []=>exact Put1.cast rfl h
  | false::f =>
   obtain ⟨q,hq,rfl⟩:=Option.map_eq_some_iff.1 h
   obtain ⟨v,z,h1⟩:=zb1 w a x.1 f u y q hq
   obtain ⟨p,c,e1,e2,e3⟩:=h1.cells
   obtain ⟨A,C,e4,e5⟩:=h1.bl
   exact ⟨v,z,h1.sub,⟨p,c++z8 b x.2,by simp [z8,e1],by simp [z8,e2],e3⟩,h1.sz,fun F h k=>⟨h1.ho F h.1 k,h.2⟩,fun h k=>⟨h1.pl h.1 k,h.2⟩,⟨A,C++z6 b x.2,by simp [z6,e4],by simp [z6,e5]⟩,h1.fl⟩
  | true::f =>
   obtain ⟨q,hq,rfl⟩:=Option.map_eq_some_iff.1 h
   obtain ⟨v,z,h1⟩:=zb1 w b x.2 f u y q hq
   obtain ⟨p,c,e1,e2,e3⟩:=h1.cells
   obtain ⟨A,C,e4,e5⟩:=h1.bl
   exact ⟨v,z,h1.sub,⟨z8 a x.1++p,c,by simp [z8,e1],by simp [z8,e2],by rw [List.length_append,e3,z1s]; rfl⟩,h1.sz,fun F h k=>⟨h.1,h1.ho F h.2 k⟩,fun h k=>⟨h.1,h1.pl h.2 k⟩,⟨z6 a x.1++A,C,by simp [z6,e4],by simp [z6,e5]⟩,h1.fl⟩
 | .int _,x,f,u,y,x',h=>by match f with | []=>exact Put1.cast rfl h | _::_=>cases h
 | .bool,x,f,u,y,x',h=>by match f with | []=>exact Put1.cast rfl h | _::_=>cases h
 | .str,x,f,u,y,x',h=>by match f with | []=>exact Put1.cast rfl h | _::_=>cases h
 | .un,x,f,u,y,x',h=>by match f with | []=>exact Put1.cast rfl h | _::_=>cases h
 | .rd t,x,f,u,y,x',h=>by match f with | []=>exact Put1.cast rfl h | _::_=>cases h

theorem z3e:∀ (t:Ty) (x y:L t),zg t x [] t y=some y
 | .sl _ _,x,y=>by simp [zg,z2k]
 | .st _,x,y=>by simp [zg]
 | .pr _ _,x,y=>by simp [zg,z2k]
 | .int _,x,y=>by simp [zg,z2k]
 | .bool,x,y=>by simp [zg,z2k]
 | .str,x,y=>by simp [zg,z2k]
 | .un,x,y=>by simp [zg,z2k]
 | .rd t,x,y=>by simp [zg,z2k]

theorem z8a:∀ (t:Ty) (x:L t) (p q:List Step) (u:Ty) (y:L u),zg t x (p++q) u y=(zr t x p).bind fun z=>(zg z.1 z.2 q u y).bind fun z'=>zg t x p z.1 z'
 | .sl e t,x,p,q,u,y=>by
  match p with
  | [] =>
   show zg (.sl e t) x q u y=(zg (.sl e t) x q u y).bind fun z'=>zg (.sl e t) x [] (.sl e t) z'
   simp only [z3e]
   cases zg (.sl e t) x q u y <;> rfl
  | .f _::_=>rfl
  | .u::_=>rfl
  | .ix n::p =>
   show (x.2.2[n]?).bind _=((x.2.2[n]?).bind _).bind _
   rw [Option.bind_assoc]
   cases hx:x.2.2[n]? with
   | none=>rfl
   | some z =>
    simp only [Option.bind_some]
    refine (congrArg _ (z8a t z p q u y)).trans ?_
    rw [Option.map_bind]
    congr 1
    funext v
    simp only [Function.comp]
    rw [Option.map_bind]
    congr 1
    funext v'
    show (zg t z p v.1 v').map _=(x.2.2[n]?).bind fun z=>(zg t z p v.1 v').map _
    rw [hx]
    rfl
 | .st t,x,p,q,u,y=>by
  match p with
  | [] =>
   show zg (.st t) x q u y=(zg (.st t) x q u y).bind fun z'=>zg (.st t) x [] (.st t) z'
   simp only [z3e]
   cases zg (.st t) x q u y <;> rfl
  | .u::p=>exact z8a t x p q u y
  | .ix n::p=>exact z8a t x (.ix n::p) q u y
  | .f b::p=>exact z8a t x (.f b::p) q u y
 | .pr a b,x,p,q,u,y=>by
  match p with
  | [] =>
   show zg (.pr a b) x q u y=(zg (.pr a b) x q u y).bind fun z'=>zg (.pr a b) x [] (.pr a b) z'
   simp only [z3e]
   cases zg (.pr a b) x q u y <;> rfl
  | .ix _::_=>rfl
  | .u::_=>rfl
  | .f false::p =>
   show (zg a x.1 (p++q) u y).map _=(zr a x.1 p).bind fun z=>(zg z.1 z.2 q u y).bind fun z'=>(zg a x.1 p z.1 z').map _
   rw [z8a a x.1 p q u y,Option.map_bind]
   congr 1
   funext v
   simp only [Function.comp]
   rw [Option.map_bind]
   rfl
  | .f true::p =>
   show (zg b x.2 (p++q) u y).map _=(zr b x.2 p).bind fun z=>(zg z.1 z.2 q u y).bind fun z'=>(zg b x.2 p z.1 z').map _
   rw [z8a b x.2 p q u y,Option.map_bind]
   congr 1
   funext v
   simp only [Function.comp]
   rw [Option.map_bind]
   rfl
 | .int _,x,p,q,u,y=>by
  match p with
  | [] =>
   show zg _ x q u y=(zg _ x q u y).bind fun z'=>zg _ x [] _ z'
   simp only [z3e]; cases zg (.int _) x q u y <;> rfl
  | _::_=>rfl
 | .bool,x,p,q,u,y=>by
  match p with
  | [] =>
   show zg _ x q u y=(zg _ x q u y).bind fun z'=>zg _ x [] _ z'
   simp only [z3e]; cases zg .bool x q u y <;> rfl
  | _::_=>rfl
 | .str,x,p,q,u,y=>by
  match p with
  | [] =>
   show zg _ x q u y=(zg _ x q u y).bind fun z'=>zg _ x [] _ z'
   simp only [z3e]; cases zg .str x q u y <;> rfl
  | _::_=>rfl
 | .un,x,p,q,u,y=>by
  match p with
  | [] =>
   show zg _ x q u y=(zg _ x q u y).bind fun z'=>zg _ x [] _ z'
   simp only [z3e]; cases zg .un x q u y <;> rfl
  | _::_=>rfl
 | .rd t,x,p,q,u,y=>by
  match p with
  | [] =>
   show zg _ x q u y=(zg _ x q u y).bind fun z'=>zg _ x [] _ z'
   simp only [z3e]; cases zg (.rd t) x q u y <;> rfl
  | _::_=>rfl

def z4c (t:Ty) (x x':L t) (p:List Step):Prop:=∀ e1 t1 l1,zr t x p=some ⟨.sl e1 t1,l1⟩→∃ l1',zr t x' p=some ⟨.sl e1 t1,l1'⟩∧l1'.1=l1.1∧l1'.2.1=l1.2.1∧l1'.2.2.length=l1.2.2.length
theorem z4c.refl (t:Ty) (x:L t) (p:List Step):z4c t x x p:=fun e1 t1 l1 h=>⟨l1,h,rfl,rfl,rfl⟩

theorem z3o:∀ (t:Ty) (x:L t) (p:List Step) (u:Ty) (y:L u) (x':L t) (q:List Step),zg t x p u y=some x'→ixs q<ixs p→z4c t x x' q
 | .sl e t,x,p,u,y,x',q,h,hq=>by
  match p with
  | []=>simp [ixs] at hq
  | .f _::_=>cases h
  | .u::_=>cases h
  | .ix n::p =>
   obtain ⟨z,hz,h⟩:=Option.bind_eq_some_iff.1 h
   obtain ⟨z',hz',rfl⟩:=Option.map_eq_some_iff.1 h
   match q with
   | []=>intro e1 t1 l1 h1; cases h1; exact ⟨_,rfl,rfl,rfl,by simp⟩
   | .f _::_=>intro e1 t1 l1 h1; cases h1
   | .u::_=>intro e1 t1 l1 h1; cases h1
   | .ix m::q =>
    intro e1 t1 l1 h1
    obtain ⟨v,hv,h1⟩:=Option.bind_eq_some_iff.1 h1
    show ∃ l1',((x.2.2.set n z')[m]?).bind (fun y=>zr t y q)=_∧_
    by_cases hnm:n=m
    ·subst hnm
     rw [hz] at hv
     cases hv
     have hlt:=(List.getElem?_eq_some_iff.1 hz).1
     rw [List.getElem?_set_self hlt,Option.bind_some]
     simp only [ixs] at hq
     exact z3o t z p u y z' q hz' (by omega) e1 t1 l1 h1
    ·rw [List.getElem?_set_ne hnm,hv,Option.bind_some]
     exact ⟨l1,h1,rfl,rfl,rfl⟩
 | .st t,x,p,u,y,x',q,h,hq=>by
  match q with
  | []=>intro e1 t1 l1 h1; cases h1
  | .u::q =>
   match p with
   | []=>simp [ixs] at hq
   | .u::p=>exact z3o t x p u y x' q h (by simpa [ixs] using hq)
   | .ix n::p=>exact z3o t x (.ix n::p) u y x' q h (by simpa [ixs] using hq)
   | .f b::p=>exact z3o t x (.f b::p) u y x' q h (by simpa [ixs] using hq)
  | .ix m::q =>
   match p with
   | []=>simp [ixs] at hq
   | .u::p=>exact z3o t x p u y x' (.ix m::q) h (by simpa [ixs] using hq)
   | .ix n::p=>exact z3o t x (.ix n::p) u y x' (.ix m::q) h hq
   | .f b::p=>exact z3o t x (.f b::p) u y x' (.ix m::q) h hq
  | .f c::q =>
   match p with
   | []=>simp [ixs] at hq
   | .u::p=>exact z3o t x p u y x' (.f c::q) h (by simpa [ixs] using hq)
   | .ix n::p=>exact z3o t x (.ix n::p) u y x' (.f c::q) h hq
   | .f b::p=>exact z3o t x (.f b::p) u y x' (.f c::q) h hq
 | .pr a b,x,p,u,y,x',q,h,hq=>by
  match p with
  | []=>simp [ixs] at hq
  | .ix _::_=>cases h
  | .u::_=>cases h
  | .f false::p =>
   obtain ⟨z,hz,rfl⟩:=Option.map_eq_some_iff.1 h
   match q with
   | []=>intro e1 t1 l1 h1; cases h1
   | .ix _::_=>intro e1 t1 l1 h1; cases h1
   | .u::_=>intro e1 t1 l1 h1; cases h1
   | .f false::q=>exact z3o a x.1 p u y z q hz (by simpa [ixs] using hq)
   | .f true::q=>intro e1 t1 l1 h1; exact ⟨l1,h1,rfl,rfl,rfl⟩
  | .f true::p =>
   obtain ⟨z,hz,rfl⟩:=Option.map_eq_some_iff.1 h
   match q with
   | []=>intro e1 t1 l1 h1; cases h1
   | .ix _::_=>intro e1 t1 l1 h1; cases h1
   | .u::_=>intro e1 t1 l1 h1; cases h1
   | .f false::q=>intro e1 t1 l1 h1; exact ⟨l1,h1,rfl,rfl,rfl⟩
   | .f true::q=>exact z3o b x.2 p u y z q hz (by simpa [ixs] using hq)
 | .int _,x,p,u,y,x',q,h,hq=>by match p with | []=>simp [ixs] at hq | _::_=>cases h
 | .bool,x,p,u,y,x',q,h,hq=>by match p with | []=>simp [ixs] at hq | _::_=>cases h
 | .str,x,p,u,y,x',q,h,hq=>by match p with | []=>simp [ixs] at hq | _::_=>cases h
 | .un,x,p,u,y,x',q,h,hq=>by match p with | []=>simp [ixs] at hq | _::_=>cases h
 | .rd t,x,p,u,y,x',q,h,hq=>by match p with | []=>simp [ixs] at hq | _::_=>cases h

theorem z9b:∀ (t:Ty) (x:L t) (p:List Step) (v:Loc),t.flat=true→zr t x p=some v→v.1.flat=true
 | .sl _ _,_,_,_,h,_=>by cases h
 | .st t,x,p,v,h,hs=>by
  match p with
  | []=>cases hs; exact h
  | .u::p=>exact z9b t x p v h hs
  | .ix n::p=>exact z9b t x (.ix n::p) v h hs
  | .f b::p=>exact z9b t x (.f b::p) v h hs
 | .pr a b,x,p,v,h,hs=>by
  have h':=h
  simp only [Ty.flat,Bool.and_eq_true] at h'
  match p with
  | []=>cases hs; exact h
  | .ix _::_=>cases hs
  | .u::_=>cases hs
  | .f false::p=>exact z9b a x.1 p v h'.1 hs
  | .f true::p=>exact z9b b x.2 p v h'.2 hs
 | .int _,x,p,v,h,hs=>by match p with | []=>cases hs; rfl | _::_=>cases hs
 | .bool,x,p,v,h,hs=>by match p with | []=>cases hs; rfl | _::_=>cases hs
 | .str,x,p,v,h,hs=>by match p with | []=>cases hs; rfl | _::_=>cases hs
 | .un,x,p,v,h,hs=>by cases h
 | .rd t,x,p,v,h,hs=>by cases h
theorem zdb {t:Ty} (x x':L t) (q:List Step) (h:t.flat=true):z4c t x x' q:=by
 intro e1 t1 l1 h1
 have:=z9b t x q _ h h1
 cases this

theorem z50:∀ (t:Ty) (x:L t) (p:List Step) (u:Ty) (y:L u) (x':L t) (q:List Step),zg t x p u y=some x'→u.flat=true→z4c t x x' q
 | .sl e t,x,p,u,y,x',q,h,hu=>by
  match p with
  | []=>obtain ⟨e2,_⟩:=z7g h; subst e2; cases hu
  | .f _::_=>cases h
  | .u::_=>cases h
  | .ix n::p =>
   obtain ⟨z,hz,h⟩:=Option.bind_eq_some_iff.1 h
   obtain ⟨z',hz',rfl⟩:=Option.map_eq_some_iff.1 h
   match q with
   | []=>intro e1 t1 l1 h1; cases h1; exact ⟨_,rfl,rfl,rfl,by simp⟩
   | .f _::_=>intro e1 t1 l1 h1; cases h1
   | .u::_=>intro e1 t1 l1 h1; cases h1
   | .ix m::q =>
    intro e1 t1 l1 h1
    obtain ⟨v,hv,h1⟩:=Option.bind_eq_some_iff.1 h1
    show ∃ l1',((x.2.2.set n z')[m]?).bind (fun y=>zr t y q)=_∧_
    by_cases hnm:n=m
    ·subst hnm
     rw [hz] at hv
     cases hv
     have hlt:=(List.getElem?_eq_some_iff.1 hz).1
     rw [List.getElem?_set_self hlt,Option.bind_some]
     exact z50 t z p u y z' q hz' hu e1 t1 l1 h1
    ·rw [List.getElem?_set_ne hnm,hv,Option.bind_some]
     exact ⟨l1,h1,rfl,rfl,rfl⟩
 | .st t,x,p,u,y,x',q,h,hu=>by
  match p with
  | [] =>
   refine zdb x x' q ?_
   have h:(if h:u=.st t then some (cast (by rw [h]) y) else z2k u t y)=some x':=h
   by_cases e:u=.st t
   ·subst e; exact hu
   ·rw [dif_neg e] at h
    obtain ⟨e2,he⟩:=z7g h
    subst e2
    exact hu
  | .u::p =>
   match q with
   | []=>intro e1 t1 l1 h1; cases h1
   | .u::q=>exact z50 t x p u y x' q h hu
   | .ix m::q=>exact z50 t x p u y x' (.ix m::q) h hu
   | .f c::q=>exact z50 t x p u y x' (.f c::q) h hu
  | .ix n::p =>
   match q with
   | []=>intro e1 t1 l1 h1; cases h1
   | .u::q=>exact z50 t x (.ix n::p) u y x' q h hu
   | .ix m::q=>exact z50 t x (.ix n::p) u y x' (.ix m::q) h hu
   | .f c::q=>exact z50 t x (.ix n::p) u y x' (.f c::q) h hu
  | .f b::p =>
   match q with
   | []=>intro e1 t1 l1 h1; cases h1
   | .u::q=>exact z50 t x (.f b::p) u y x' q h hu
   | .ix m::q=>exact z50 t x (.f b::p) u y x' (.ix m::q) h hu
   | .f c::q=>exact z50 t x (.f b::p) u y x' (.f c::q) h hu
 | .pr a b,x,p,u,y,x',q,h,hu=>by
  match p with
  | []=>obtain ⟨e2,_⟩:=z7g h; subst e2; exact zdb x x' q hu
  | .ix _::_=>cases h
  | .u::_=>cases h
  | .f false::p =>
   obtain ⟨z,hz,rfl⟩:=Option.map_eq_some_iff.1 h
   match q with
   | []=>intro e1 t1 l1 h1; cases h1
   | .ix _::_=>intro e1 t1 l1 h1; cases h1
   | .u::_=>intro e1 t1 l1 h1; cases h1
   | .f false::q=>exact z50 a x.1 p u y z q hz hu
   | .f true::q=>intro e1 t1 l1 h1; exact ⟨l1,h1,rfl,rfl,rfl⟩
  | .f true::p =>
   obtain ⟨z,hz,rfl⟩:=Option.map_eq_some_iff.1 h
   match q with
   | []=>intro e1 t1 l1 h1; cases h1
   | .ix _::_=>intro e1 t1 l1 h1; cases h1
   | .u::_=>intro e1 t1 l1 h1; cases h1
   | .f false::q=>intro e1 t1 l1 h1; exact ⟨l1,h1,rfl,rfl,rfl⟩
   | .f true::q=>exact z50 b x.2 p u y z q hz hu
 | .int _,x,p,u,y,x',q,h,hu=>by match p with | []=>exact zdb x x' q rfl | _::_=>cases h
 | .bool,x,p,u,y,x',q,h,hu=>by match p with | []=>exact zdb x x' q rfl | _::_=>cases h
 | .str,x,p,u,y,x',q,h,hu=>by match p with | []=>exact zdb x x' q rfl | _::_=>cases h
 | .un,x,p,u,y,x',q,h,hu=>by match p with | []=>obtain ⟨e2,_⟩:=z7g h; subst e2; cases hu | _::_=>cases h
 | .rd t,x,p,u,y,x',q,h,hu=>by match p with | []=>obtain ⟨e2,_⟩:=z7g h; subst e2; cases hu | _::_=>cases h

theorem z8b {F:Frz} {w w':World} {g:Nat} (hw:∀ k,k≠g→w'.heap[k]?=w.heap[k]?):∀ (t:Ty) (x:L t) (q:List Step) (v:Ty) (z y:L v) (x':L t),zr t x q=some ⟨v,z⟩→zg t x q v y=some x'→z8 v y=z8 v z→(z6 t x).Nodup→g∈z6 v z →
  z8 t x'=z8 t x∧(holds F w t x→holds F w' v y→holds F w' t x')∧(plain w t x→plain w' v y→plain w' t x')∧∃ A C,z6 t x=A++z6 v z++C∧z6 t x'=A++z6 v y++C
 | .sl e t,x,q,v,z,y,x',hs,h,hc,hn,hg=>by
  match q with
  | [] =>
   cases hs
   obtain ⟨_,he⟩:=z7g h
   subst he
   exact ⟨hc,fun _ h=>h,fun _ h=>h,[],[],by simp,by simp⟩
  | .f _::_=>cases h
  | .u::_=>cases h
  | .ix n::q =>
   obtain ⟨x0,hx0,h⟩:=Option.bind_eq_some_iff.1 h
   obtain ⟨x0',hx0',rfl⟩:=Option.map_eq_some_iff.1 h
   obtain ⟨x1,hx1,hs⟩:=Option.bind_eq_some_iff.1 hs
   rw [hx0] at hx1
   cases hx1
   obtain ⟨hlt,hxe⟩:=List.getElem?_eq_some_iff.1 hx0
   have hsplit:x.2.2=x.2.2.take n++x0::x.2.2.drop (n+1):=by
    rw [← hxe,← List.drop_eq_getElem_cons hlt,List.take_append_drop]
   have hset:x.2.2.set n x0'=x.2.2.take n++x0'::x.2.2.drop (n+1):=by rw [List.set_eq_take_append_cons_drop,if_pos hlt]
   have hb:z6 (.sl e t) x=x.1.toList++((x.2.2.take n).flatMap (z6 t))++z6 t x0++(x.2.2.drop (n+1)).flatMap (z6 t):=by
    simp only [z6]
    conv=>lhs; rw [hsplit]
    simp [List.append_assoc]
   rw [hb] at hn
   obtain ⟨n1,n2,n3⟩:=List.nodup_append.1 hn
   obtain ⟨n4,n5,n6⟩:=List.nodup_append.1 n1
   obtain ⟨i1,i2,i3,A,C,i4,i5⟩:=z8b hw t x0 q v z y x0' hs hx0' hc n5 hg
   have hg0:g∈z6 t x0:=by rw [i4]; simp [hg]
   have away1:∀ y∈x.2.2.take n,∀ k∈z6 t y,k≠g:=fun y hy k hk e=>n6 k (List.mem_append.2 (.inr (List.mem_flatMap.2 ⟨y,hy,hk⟩))) g hg0 e
   have away2:∀ y∈x.2.2.drop (n+1),∀ k∈z6 t y,k≠g:=fun y hy k hk e=>n3 g (List.mem_append.2 (.inr hg0)) k (List.mem_flatMap.2 ⟨y,hy,hk⟩) e.symm
   have away0:∀ b,x.1=some b→b≠g:=fun b hb e=>n6 b (List.mem_append.2 (.inl (by rw [hb]; simp))) g hg0 e
   refine ⟨by simp [z8],fun hh hy=>⟨?_,?_⟩,fun hp hy=>⟨?_,?_⟩,x.1.toList++(x.2.2.take n).flatMap (z6 t)++A,C++(x.2.2.drop (n+1)).flatMap (z6 t),?_,?_⟩
   ·have h1:=hh.1
    simp only []
    cases hx:x.1 with
    | none=>rw [hx] at h1; rw [h1.1] at hlt; simp at hlt
    | some b =>
     rw [hx] at h1
     obtain ⟨cur,fz,k1,k2,k3,k4,k5,k6⟩:=h1
     refine ⟨cur,fz,(hw b (away0 b hx)).trans k1,by rw [List.length_set]; exact k2,k3,k4,?_,by rw [List.length_set]; exact k6⟩
     rw [List.length_set,k5,hset]
     conv=>lhs; rw [hsplit]
     simp [i1]
   ·intro y' hy'
    have hy':y'∈x.2.2.set n x0':=hy'
    rw [hset] at hy'
    rcases List.mem_append.1 hy' with hm | hm
    ·exact z1t (fun k hk=>hw k (away1 y' hm k hk)) (hh.2 y' (List.mem_of_mem_take hm))
    ·rcases List.mem_cons.1 hm with rfl | hm
     ·exact i2 (hh.2 x0 (List.mem_of_getElem? hx0)) hy
     ·exact z1t (fun k hk=>hw k (away2 y' hm k hk)) (hh.2 y' (List.mem_of_mem_drop hm))
   ·intro b hb
    obtain ⟨cur,e',k1,k2⟩:=hp.1 b hb
    exact ⟨cur,e',(hw b (away0 b hb)).trans k1,k2⟩
   ·intro y' hy'
    have hy':y'∈x.2.2.set n x0':=hy'
    rw [hset] at hy'
    rcases List.mem_append.1 hy' with hm | hm
    ·exact z1u (fun k hk=>hw k (away1 y' hm k hk)) (hp.2 y' (List.mem_of_mem_take hm))
    ·rcases List.mem_cons.1 hm with rfl | hm
     ·exact i3 (hp.2 x0 (List.mem_of_getElem? hx0)) hy
     ·exact z1u (fun k hk=>hw k (away2 y' hm k hk)) (hp.2 y' (List.mem_of_mem_drop hm))
   ·rw [hb,i4]; simp [List.append_assoc]
   ·simp only [z6]
    rw [hset]
    simp [i5,List.append_assoc]
 | .st t,x,q,v,z,y,x',hs,h,hc,hn,hg=>by
  match q with
  | [] =>
   cases hs
   have:=(z3e (.st t) x y).symm.trans h
   cases this
   exact ⟨hc,fun _ h=>h,fun _ h=>h,[],[],by simp,by simp⟩
  | .u::q=>exact z8b hw t x q v z y x' hs h hc hn hg
  | .ix n::q=>exact z8b hw t x (.ix n::q) v z y x' hs h hc hn hg
  | .f b::q=>exact z8b hw t x (.f b::q) v z y x' hs h hc hn hg
 | .pr a b,x,q,v,z,y,x',hs,h,hc,hn,hg=>by
  match q with
  | [] =>
   cases hs
   have:=(z3e (.pr a b) x y).symm.trans h
   cases this
   exact ⟨hc,fun _ h=>h,fun _ h=>h,[],[],by simp,by simp⟩
  | .ix _::_=>cases h
  | .u::_=>cases h
  | .f false::q =>
   obtain ⟨p,hp,rfl⟩:=Option.map_eq_some_iff.1 h
   simp only [z6] at hn
   obtain ⟨n1,n2,n3⟩:=List.nodup_append.1 hn
   obtain ⟨i1,i2,i3,A,C,i4,i5⟩:=z8b hw a x.1 q v z y p hs hp hc n1 hg
   have hg0:g∈z6 a x.1:=by rw [i4]; simp [hg]
   have away:∀ k∈z6 b x.2,k≠g:=fun k hk e=>n3 g hg0 k hk e.symm
   exact ⟨by simp [z8,i1],fun hh hy=>⟨i2 hh.1 hy,z1t (fun k hk=>hw k (away k hk)) hh.2⟩,fun hh hy=>⟨i3 hh.1 hy,z1u (fun k hk=>hw k (away k hk)) hh.2⟩,A,C++z6 b x.2,by simp [z6,i4],by simp [z6,i5]⟩
  | .f true::q =>
   obtain ⟨p,hp,rfl⟩:=Option.map_eq_some_iff.1 h
   simp only [z6] at hn
   obtain ⟨n1,n2,n3⟩:=List.nodup_append.1 hn
   obtain ⟨i1,i2,i3,A,C,i4,i5⟩:=z8b hw b x.2 q v z y p hs hp hc n2 hg
   have hg0:g∈z6 b x.2:=by rw [i4]; simp [hg]
   have away:∀ k∈z6 a x.1,k≠g:=fun k hk e=>n3 k hk g hg0 e
   exact ⟨by simp [z8,i1],fun hh hy=>⟨z1t (fun k hk=>hw k (away k hk)) hh.1,i2 hh.2 hy⟩,fun hh hy=>⟨z1u (fun k hk=>hw k (away k hk)) hh.1,i3 hh.2 hy⟩,z6 a x.1++A,C,by simp [z6,i4],by simp [z6,i5]⟩
 | .int _,x,q,v,z,y,x',hs,h,hc,hn,hg=>by match q with | []=>cases hs; simp [z6] at hg | _::_=>cases hs
 | .bool,x,q,v,z,y,x',hs,h,hc,hn,hg=>by match q with | []=>cases hs; simp [z6] at hg | _::_=>cases hs
 | .str,x,q,v,z,y,x',hs,h,hc,hn,hg=>by match q with | []=>cases hs; simp [z6] at hg | _::_=>cases hs
 | .un,x,q,v,z,y,x',hs,h,hc,hn,hg=>by match q with | []=>cases hs; simp [z6] at hg | _::_=>cases hs
 | .rd t,x,q,v,z,y,x',hs,h,hc,hn,hg=>by match q with | []=>cases hs; simp [z6] at hg | _::_=>cases hs

theorem zw4 (l:List Value) (k:Nat) (v:Value) (rest:List Value) (h:k<l.length):(l.set k v).take (k+1)++rest++(l.set k v).drop (k+1+rest.length)=l.take k++(v::rest)++l.drop (k+(v::rest).length):=by
 have h1:(l.set k v).take (k+1)=l.take k++[v]:=by
  rw [List.take_add_one,List.take_set_of_le (Nat.le_refl _),List.getElem?_set_self h]; rfl
 have h2:(l.set k v).drop (k+1+rest.length)=l.drop (k+(v::rest).length):=by
  rw [List.drop_set_of_lt (by omega)]
  congr 1
  simp only [List.length_cons]; omega
 rw [h1,h2]; simp

theorem zfd (P:Program) (g:Nat) (t:TypeId) (fz:Nat×Nat):∀ (vs:List Value) (o i:Nat) (cur:Array Value) (w:World),w.heap[g]?=some (.cells cur t fz)→o+i+vs.length≤cur.size→(fz=(0,0)∨o+i+vs.length≤fz.1)→(∀ v∈vs,v.oneCell'=true) →
  ∃ w',(storeCells ⟨g,o,none⟩ vs i).run P w=.ok () w'∧w'.heap[g]?=some (.cells (cur.toList.take (o+i)++vs++cur.toList.drop (o+i+vs.length)).toArray t fz)∧(∀ k,k≠g→w'.heap[k]?=w.heap[k]?)∧Kept (fun k=>k=g) w w'
 | [],o,i,cur,w,hg,_,_,_=>⟨w,rfl,by simpa using hg,fun _ _=>rfl,Kept.refl _ w⟩
 | v::rest,o,i,cur,w,hg,hl,hf,h1=>by
  have hi:o+i<cur.size:=by simp at hl; omega
  have hadd:(⟨g,o,none⟩:Addr).add i=⟨g,o+i,none⟩:=z2v g o i
  have hcell:w.cell? ⟨g,o+i,none⟩=some cur[o+i]:=by simp [World.cell?,hg,hi]
  have hfro:w.frozen? ⟨g,o+i,none⟩=false:=by
   obtain ⟨lo,hi'⟩:=fz
   simp only [World.frozen?,hg]
   rcases hf with hf | hf
   ·cases hf; simp
   ·simp only [List.length_cons] at hf
    have:¬ lo≤o+i:=by omega
    simp [this]
  have hst:(store ((⟨g,o,none⟩:Addr).add i) v).run P w=.ok () (w.setRow g (cur.setIfInBounds (o+i) v)):=by
   rw [hadd,run_store P w _ v _ (h1 v (by simp)),hcell]
   simp [hfro,setCell_eq_setRow w g (o+i) cur t fz v hg]
  obtain ⟨w',e1,e2,e3,e4⟩:=zfd P g t fz rest o (i+1) (cur.setIfInBounds (o+i) v) (w.setRow g (cur.setIfInBounds (o+i) v)) (setRow_heap w g cur _ t _ hg) (by simp at hl ⊢; omega) (by
   rcases hf with hf | hf
   ·exact .inl hf
   ·exact .inr (by simp at hf ⊢; omega)) (fun x hx=>h1 x (by simp [hx]))
  refine ⟨w',by simp only [storeCells,Sem.run_bind,hst,Result.andThen_ok,e1],?_,fun k hk=>(e3 k hk).trans (setRow_other w g k _ hk),?_⟩
  ·rw [e2]
   congr 2
   apply Array.ext'
   have:=zw4 cur.toList (o+i) v rest (by simpa using hi)
   simpa [Array.toList_setIfInBounds,Nat.add_assoc] using this
  ·have hk:Kept (fun k=>k=g) w (w.setRow g (cur.setIfInBounds (o+i) v)):=⟨rfl,rfl,rfl,by simp,fun k _ hk=>setRow_other w g k _ hk⟩
   exact hk.trans e4 (fun _ _ h=>h)

theorem zdc {P:Program} {E:Env} (T:zb P E.ti=true) {t:TypeId} (h0:(E.tyOf t).sz≠0) {v:Value} {cs:List Value} (hv:v.cells=cs.toArray) (hl:cs.length=(E.tyOf t).sz) (h1:∀ v∈cs,v.oneCell'=true)
  {g o:Nat} {e:TypeId} {fz:Nat×Nat} {cur:Array Value} {w:World} (hg:w.heap[g]?=some (.cells cur e fz)) (hfit:o+cs.length≤cur.size) (hf:fz=(0,0)∨o+cs.length≤fz.1) :
  ∃ w',(Instr.storeAt t (.pointer (some ⟨g,o,none⟩)) v).run P w=.ok () w'∧w'.heap[g]?=some (.cells (cur.toList.take o++cs++cur.toList.drop (o+cs.length)).toArray e fz)∧(∀ k,k≠g→w'.heap[k]?=w.heap[k]?)∧Kept (fun k=>k=g) w w':=by
 obtain ⟨w',e1,e2,e3,e4⟩:=zfd P g e fz cs o 0 cur w hg (by simpa using hfit) (by simpa using hf) h1
 obtain ⟨ti,k1,k2,k3⟩:=z49 T h0
 have hs:=(z97 T k1 k3 w).2.1
 rw [k2] at hs
 refine ⟨w',?_,by simpa using e2,e3,e4⟩
 simp only [Instr.storeAt,Instr.sureAddr,Sem.run_bind,Sem.run_pure,Result.andThen_ok,storeVar,hs]
 rw [if_neg (by rw [hv]; simp [hl]),hv]
 exact e1

section
variable {P : Program} {E : Env} {w0 : World} {ok O : Nat → Prop} {σ σ' : St} {tm : Array Value} {w w' : World} {M : Map} {a : Act}

def SV.paths (j:Nat):SV→List (List Step)
 | .ref i p=>bif Nat.beq j i then [p] else []
 | .vw i _ _=>bif Nat.beq j i then [[]] else []
 | .ep i p _ _ _=>bif Nat.beq j i then [p] else []
 | .st s=>s.paths j
 | .pr a b=>a.paths j++b.paths j
 | .clo _ c=>c.paths j
 | .tup s=>s.paths j
 | .cns a b=>a.paths j++b.paths j
 | _=>[]

def z1g (M:Map) (j:Nat) (x:Loc):Map:={ M with loc:=z2j M.loc j x }
theorem z8c {j:Nat} {e:TypeId} {t:Ty} {l l':L (.sl e t)} (hl:M.loc j=⟨.sl e t,l⟩):∀ {s:SV} {cs:List Value},(∀ p∈s.paths j,z4c _ l l' p)→za w0 ok M s cs→za w0 ok (z1g M j ⟨.sl e t,l'⟩) s cs
 | .val t x,cs,h,hs=>hs
 | .ref i p,cs,h,hs=>by
  by_cases hi:i=j
  ·subst hi
   obtain ⟨e1,t1,l1,h1,rfl⟩:=hs
   rw [hl] at h1
   obtain ⟨l1',h2,h3,h4,h5⟩:=h p (by simp [SV.paths]) e1 t1 l1 h1
   exact ⟨e1,t1,l1',(congrArg (fun z:Loc=>zr z.1 z.2 p) (z1n M.loc i ⟨.sl e t,l'⟩)).trans h2,by simp [z8,h3,h4,h5]⟩
  ·have:(z1g M j ⟨.sl e t,l'⟩).loc i=M.loc i:=z35 _ _ hi
   simp only [za] at hs ⊢
   rw [this]; exact hs
 | .vw i lo n,cs,h,hs=>by
  by_cases hi:i=j
  ·subst hi
   obtain ⟨e1,t1,l1,h1,h2,A,c,rfl,h3,h4⟩:=hs
   rw [hl] at h1
   cases h1
   obtain ⟨l1',k2,k3,k4,k5⟩:=h [] (by simp [SV.paths]) e t l rfl
   cases k2
   refine ⟨e,t,l',z1n _ _ _,by rw [k5]; exact h2,A,c,rfl,by rw [k4]; exact h3,fun hh=>by rw [k3]; exact h4 hh⟩
  ·have:(z1g M j ⟨.sl e t,l'⟩).loc i=M.loc i:=z35 _ _ hi
   simp only [za] at hs ⊢
   rw [this]; exact hs
 | .ls i,cs,h,hs=>hs
 | .st s,cs,h,hs=>z8c hl (s:=s) h hs
 | .pr a b,cs,h,hs=>by
  obtain ⟨c1,c2,rfl,h1,h2⟩:=hs
  exact ⟨c1,c2,rfl,z8c hl (fun p hp=>h p (by simp [SV.paths,hp])) h1,z8c hl (fun p hp=>h p (by simp [SV.paths,hp])) h2⟩
 | .bp i p o,cs,h,hs=>hs
 | .ep i p n f o,cs,h,hs=>by
  by_cases hi:i=j
  ·subst hi
   obtain ⟨e1,t1,l1,g,h1,h6,h7,rfl⟩:=hs
   rw [hl] at h1
   obtain ⟨l1',h2,h3,h4,h5⟩:=h p (by simp [SV.paths]) e1 t1 l1 h1
   exact ⟨e1,t1,l1',g,(congrArg (fun z:Loc=>zr z.1 z.2 p) (z1n M.loc i ⟨.sl e t,l'⟩)).trans h2,by rw [h3]; exact h6,by rw [h5]; exact h7,rfl⟩
  ·have:(z1g M j ⟨.sl e t,l'⟩).loc i=M.loc i:=z35 _ _ hi
   simp only [za] at hs ⊢
   rw [this]; exact hs
 | .lp i n,cs,h,hs=>hs
 | .clo g c,cs,h,hs=>by
  obtain ⟨caps,rfl,h1⟩:=hs
  exact ⟨caps,rfl,z8c hl (s:=c) h h1⟩
 | .no,cs,h,hs=>hs
 | .er _,cs,h,hs=>hs
 | .un,cs,h,hs=>hs
 | .tup _,_,_,h=>h.elim
 | .cns _ _,_,_,h=>h.elim
 | .nl,_,_,h=>h.elim
theorem zw5 {j:Nat} {e:TypeId} {t:Ty} {l l':L (.sl e t)} (hl:M.loc j=⟨.sl e t,l⟩) {s:SV}:∀ {cs:List Value},(∀ p∈s.paths j,z4c _ l l' p)→z1e w0 ok M s cs→z1e w0 ok (z1g M j ⟨.sl e t,l'⟩) s cs:=by
 induction s with
 | cns a b iha ihb =>
  intro cs h hs
  obtain ⟨c1,c2,rfl,h1,h2⟩:=hs
  exact ⟨c1,c2,rfl,z8c hl (fun p hp=>h p (by simp [SV.paths,hp])) h1,ihb (fun p hp=>h p (by simp [SV.paths,hp])) h2⟩
 | nl=>intro cs h hs; exact hs
 | _=>intro cs h hs; exact z8c hl h hs
theorem zw6 {j:Nat} {e:TypeId} {t:Ty} {l l':L (.sl e t)} (hl:M.loc j=⟨.sl e t,l⟩) {s:SV}:∀ {vs:List Value},(∀ p∈s.paths j,z4c _ l l' p)→z2d w0 ok M s vs→z2d w0 ok (z1g M j ⟨.sl e t,l'⟩) s vs:=by
 induction s with
 | cns a b iha ihb =>
  intro vs h hs
  obtain ⟨v,vs',rfl,⟨cs,h1,h3⟩,h2⟩:=hs
  exact ⟨v,vs',rfl,⟨cs,z8c hl (fun p hp=>h p (by simp [SV.paths,hp])) h1,h3⟩,ihb (fun p hp=>h p (by simp [SV.paths,hp])) h2⟩
 | nl=>intro cs h hs; exact hs
 | _=>intro vs h hs; exact hs.elim
theorem zw7 {j:Nat} {e:TypeId} {t:Ty} {l l':L (.sl e t)} (hl:M.loc j=⟨.sl e t,l⟩) {s:SV} {v:Value} (h:∀ p∈s.paths j,z4c _ l l' p) (hs:zi w0 ok M s v):zi w0 ok (z1g M j ⟨.sl e t,l'⟩) s v:=by
 rcases z34 hs with rfl | ⟨c,vs,rfl,rfl,h1⟩ | ⟨cs,h1,h2⟩
 ·trivial
 ·exact ⟨vs,rfl,zw6 hl h h1⟩
 ·exact z1m (z8c hl h h1) h2

theorem z6o {α:Type}:∀ (l:List (Nat×α)) (n:Nat) (x:α) (i:Nat),lk (up l n x) i=if n=i then (lk l i).map fun _=>x else lk l i
 | [],n,x,i=>by simp [up,lk]
 | (k,v)::l,n,x,i=>by
  simp only [up]
  by_cases hk:k=n
  ·subst hk
   simp only [show Nat.beq k k=true by simp,cond_true,zn]
   split <;> rfl
  ·have:Nat.beq k n=false:=by cases hb:Nat.beq k n with | false=>rfl | true=>exact absurd (Nat.eq_of_beq_eq_true hb) hk
   simp only [this,cond_false,zn,z6o l n x i]
   by_cases hki:k=i
   ·subst hki; rw [if_pos rfl,if_neg (fun h=>hk h.symm),if_pos rfl]
   ·rw [if_neg hki,if_neg hki]

theorem Rep.upd (R:Rep E w0 ok O σ tm w M) {j:Nat} {r:Row} (hr:lk σ.rows j=some r) {l l':L (.sl r.e r.t)} (hl:M.loc j=⟨.sl r.e r.t,l⟩) {bs:List Nat}
  (hk:Kept (fun k=>k∈z6 (.sl r.e r.t) l) w w') (hh:holds (Rd w0 ok) w' (.sl r.e r.t) l') (hnd:(z6 (.sl r.e r.t) l').Nodup) (hp:r.z=false→plain w' (.sl r.e r.t) l')
  (hcell:z8 (.sl r.e r.t) l'=z8 (.sl r.e r.t) l) (hbl:∀ k∈z6 (.sl r.e r.t) l',k∈z6 (.sl r.e r.t) l∨k∈bs) (hbs:Free w0 ok O σ M bs)
  (hS:∀ s v,lk σ.sl s=some v→∀ p∈v.paths j,z4c _ l l' p) (hB:∀ i b,lk σ.bx i=some b→∀ p∈b.c.paths j,z4c _ l l' p) :
  Rep E w0 ok O (σ.setRow j ⟨r.e,r.t,erase (.sl r.e r.t) l',r.z⟩) tm w' (z1g M j ⟨.sl r.e r.t,l'⟩):=by
 have hrow:∀ i,(∃ q,lk (σ.setRow j ⟨r.e,r.t,erase (.sl r.e r.t) l',r.z⟩).rows i=some q)→∃ q,lk σ.rows i=some q:=by
  rintro i ⟨q,hq⟩
  have hq:lk (up σ.rows j _) i=some q:=hq
  rw [z6o] at hq
  split at hq
  ·obtain ⟨q',h1,_⟩:=Option.map_eq_some_iff.1 hq; exact ⟨q',h1⟩
  ·exact ⟨q,hq⟩
 have hrow2:∀ i,(∃ q,lk σ.rows i=some q)→∃ q,lk (σ.setRow j ⟨r.e,r.t,erase (.sl r.e r.t) l',r.z⟩).rows i=some q:=by
  rintro i ⟨q,hq⟩
  show ∃ q,lk (up σ.rows j _) i=some q
  rw [z6o,hq]
  split
  ·exact ⟨_,rfl⟩
  ·exact ⟨q,rfl⟩
 have loc_ne:∀ i,i≠j→(z1g M j ⟨.sl r.e r.t,l'⟩).loc i=M.loc i:=fun i hi=>z35 _ _ hi
 have loc_j:(z1g M j ⟨.sl r.e r.t,l'⟩).loc j=⟨.sl r.e r.t,l'⟩:=z1n _ _ _
 have away:∀ i,i≠j→(∃ q,lk σ.rows i=some q)→∀ k∈z6 (M.loc i).1 (M.loc i).2,k∉z6 (.sl r.e r.t) l:=fun i hi hq k hk hk2 =>
  R.rr i j hi hq ⟨r,hr⟩ k hk (by rw [hl]; exact hk2)
 have blkAway:∀ i,(∃ b,lk σ.bx i=some b)→M.blk i∉z6 (.sl r.e r.t) l:=fun i hb hk2=>R.rb j i ⟨r,hr⟩ hb (by rw [hl]; exact hk2)
 have liveOf:∀ u,Live σ u→Live (σ.setRow j ⟨r.e,r.t,erase (.sl r.e r.t) l',r.z⟩) u:=fun u hu=>⟨fun i hi=>hrow2 i (hu.rows i hi),hu.boxes⟩
 constructor
 ·intro s v h
  obtain ⟨z,h1,h2⟩:=R.slots s v h
  exact ⟨z,h1,zw7 hl (hS s v h) h2⟩
 ·intro i q hq
  have hq:lk (up σ.rows j _) i=some q:=hq
  rw [z6o] at hq
  split at hq
  ·rename_i e
   subst e
   obtain ⟨q',h1,rfl⟩:=Option.map_eq_some_iff.1 hq
   exact ⟨l',loc_j,rfl,hh,hnd,hp⟩
  ·rename_i e
   obtain ⟨l2,h1,h2,h3,h4,h5⟩:=R.rows i q hq
   have hmv:∀ k∈z6 (.sl q.e q.t) l2,w'.heap[k]?=w.heap[k]?:=fun k hk2=>hk.block k (z1d h3 k hk2) (away i (fun h=>e h.symm) ⟨q,hq⟩ k (by rw [h1]; exact hk2))
   exact ⟨l2,(loc_ne i (fun h=>e h.symm)).trans h1,h2,z1t hmv h3,h4,fun hz=>z1u hmv (h5 hz)⟩
 ·intro i b hb
  obtain ⟨cs,h1,h2,h3⟩:=R.boxes i b hb
  exact ⟨cs,zw5 hl (hB i b hb) h1,(hk.block _ (Array.getElem?_eq_some_iff.1 h2).1 (blkAway i ⟨b,hb⟩)).trans h2,h3⟩
 ·intro i k hik hi0 hk0 x hx
  have hi:=hrow i hi0
  have hk2:=hrow k hk0
  clear hi0 hk0
  by_cases h1:i=j
  ·subst h1
   rw [loc_j] at hx
   rw [loc_ne k (fun h=>hik h.symm)]
   rcases hbl x hx with h | h
   ·intro hx2; exact away k (fun h=>hik h.symm) hk2 x hx2 h
   ·exact hbs.rows k hk2 x h
  ·rw [loc_ne i h1] at hx
   by_cases h2:k=j
   ·subst h2
    rw [loc_j]
    intro hx2
    rcases hbl x hx2 with h | h
    ·exact away i h1 hi x hx h
    ·exact hbs.rows i hi x h hx
   ·rw [loc_ne k h2]
    exact R.rr i k hik hi hk2 x hx
 ·exact R.bb
 ·intro i k hi0 hb hx
  have hi:=hrow i hi0
  clear hi0
  by_cases h1:i=j
  ·subst h1
   rw [loc_j] at hx
   rcases hbl _ hx with h | h
   ·exact blkAway k hb h
   ·exact hbs.bx k hb h
  ·rw [loc_ne i h1] at hx
   exact R.rb i k hi hb hx
 ·intro i hi0 k hx
  have hi:=hrow i hi0
  clear hi0
  by_cases h1:i=j
  ·subst h1
   rw [loc_j] at hx
   rcases hbl _ hx with h | h
   ·exact R.ownR i hi k (by rw [hl]; exact h)
   ·exact hbs.own k h
  ·rw [loc_ne i h1] at hx
   exact R.ownR i hi k hx
 ·exact R.ownB
 ·exact R.okB
 ·exact fun s v h=>liveOf v (R.liveS s v h)
 ·exact fun i b h=>liveOf b.c (R.liveB i b h)
 ·refine R.kept.trans hk fun k hk0 hk1=>?_
  rcases (R.ownR j ⟨r,hr⟩ k (by rw [hl]; exact hk1)).2 with h | h
  ·exact h
  ·omega
 ·intro i hi hq0
  have hq:=hrow i hq0
  clear hq0
  by_cases h1:i=j
  ·subst h1
   have:=R.pin i hi hq
   rw [hl] at this
   rw [loc_j,← this]
   exact hcell
  ·rw [loc_ne i h1]; exact R.pin i hi hq
 ·exact fun i hi hq=>R.pinB i hi (by first | exact hq | exact hbx1 i hq)

theorem Rep.addOwn (R:Rep E w0 ok O σ tm w M) (i:Nat) (hip:i<PIN) {e:TypeId} {t:Ty} (l:L (.sl e t)) (hh:holds (Rd w0 ok) w (.sl e t) l) (hp:plain w (.sl e t) l) (hf:Free w0 ok O σ M (z6 (.sl e t) l)) :
  Rep E w0 ok O (σ.addRow i ⟨e,t,erase (.sl e t) l,false⟩) tm w (z1g M i ⟨.sl e t,l⟩):=by
 have main:∀ {σ:St},Rep E w0 ok O σ tm w M→Free w0 ok O σ M (z6 (.sl e t) l)→lk σ.rows i=none→Rep E w0 ok O ⟨σ.sl,(i,⟨e,t,erase (.sl e t) l,false⟩)::σ.rows,σ.bx⟩ tm w (z1g M i ⟨.sl e t,l⟩):=by
  intro σ R hf hno
  have same:∀ u,Live σ u→Same M (z1g M i ⟨.sl e t,l⟩) u:=fun u hu=>⟨fun k hk=>z35 _ _ (by
   rintro rfl
   obtain ⟨r,hr⟩:=hu.rows k hk
   rw [hno] at hr; cases hr),fun _ _=>⟨rfl,rfl,rfl⟩⟩
  have loc_ne:∀ k,k≠i→(z1g M i ⟨.sl e t,l⟩).loc k=M.loc k:=fun k hk=>z35 _ _ hk
  have loc_i:(z1g M i ⟨.sl e t,l⟩).loc i=⟨.sl e t,l⟩:=z1n _ _ _
  have rows:∀ k,(∃ r,lk ((i,(⟨e,t,erase (.sl e t) l,false⟩:Row))::σ.rows) k=some r)→k=i∨(k≠i∧∃ r,lk σ.rows k=some r):=by
   rintro k ⟨r,hr⟩
   rw [zn] at hr
   split at hr
   ·rename_i h; exact .inl h.symm
   ·rename_i h; exact .inr ⟨fun e=>h e.symm,r,hr⟩
  have liveOf:∀ u,Live σ u→Live ⟨σ.sl,(i,⟨e,t,erase (.sl e t) l,false⟩)::σ.rows,σ.bx⟩ u:=fun u hu=>⟨fun k hk=>by
   obtain ⟨r,hr⟩:=hu.rows k hk
   show ∃ r,lk ((i,_)::σ.rows) k=some r
   rw [zn]
   split
   ·exact ⟨_,rfl⟩
   ·exact ⟨r,hr⟩,hu.boxes⟩
  constructor
  ·intro s v h
   obtain ⟨z,h1,h2⟩:=R.slots s v h
   exact ⟨z,h1,zii (same v (R.liveS s v h)) h2⟩
  ·intro k r hr0
   have hr:lk ((i,(⟨e,t,erase (.sl e t) l,false⟩:Row))::σ.rows) k=some r:=hr0
   clear hr0
   rw [zn] at hr
   split at hr
   ·rename_i h
    subst h
    cases hr
    exact ⟨l,loc_i,rfl,hh,hf.nd,fun _=>hp⟩
   ·rename_i h
    obtain ⟨l2,h1,h2⟩:=R.rows k r hr
    exact ⟨l2,(loc_ne k (fun e=>h e.symm)).trans h1,h2⟩
  ·intro k b hb
   obtain ⟨cs,h1,h2,h3⟩:=R.boxes k b hb
   exact ⟨cs,zey (same b.c (R.liveB k b hb)) h1,h2,h3⟩
  ·intro k k' hkk hk hk' x hx
   rcases rows k hk with rfl | ⟨n1,h1⟩
   ·rcases rows k' hk' with rfl | ⟨n2,h2⟩
    ·exact absurd rfl hkk
    ·rw [loc_i] at hx
     rw [loc_ne k' n2]
     exact hf.rows k' h2 x hx
   ·rw [loc_ne k n1] at hx
    rcases rows k' hk' with rfl | ⟨n2,h2⟩
    ·rw [loc_i]
     exact fun hx2=>hf.rows k h1 x hx2 hx
    ·rw [loc_ne k' n2]
     exact R.rr k k' hkk h1 h2 x hx
  ·exact R.bb
  ·intro k b hk hb hx
   rcases rows k hk with rfl | ⟨n1,h1⟩
   ·rw [loc_i] at hx; exact hf.bx b hb hx
   ·rw [loc_ne k n1] at hx; exact R.rb k b h1 hb hx
  ·intro k hk x hx
   rcases rows k hk with rfl | ⟨n1,h1⟩
   ·rw [loc_i] at hx; exact hf.own x hx
   ·rw [loc_ne k n1] at hx; exact R.ownR k h1 x hx
  ·exact R.ownB
  ·exact R.okB
  ·exact fun s v h=>liveOf v (R.liveS s v h)
  ·exact fun k b h=>liveOf b.c (R.liveB k b h)
  ·exact R.kept
  ·intro k hk hr
   rcases rows k hr with rfl | ⟨n1,h1⟩
   ·omega
   ·rw [loc_ne k n1]; exact R.pin k hk h1
  ·exact fun i hi hq=>R.pinB i hi hq
 unfold St.addRow
 simp only []
 cases hq:lk σ.rows i with
 | none=>exact main R hf hq
 | some r =>
  refine main (R.drop i) (hf.sub (Sub.drop σ i)) ?_
  show lk (rm σ.rows i) i=none
  rw [z4z,if_pos rfl]

theorem Rep.putV (R:Rep E w0 ok O σ tm w M) {d:Option Tmp} {s:SV} {v:Value} (hs:zi w0 ok M s v) (hl:Live σ s) (hb:inB d tm):Rep E w0 ok O (σ.put d s) (z3l tm d v) w M :=
 R.add (d:=0) (dst:=d) (nr:=[]) (nb:=[]) (by simp [St.fresh,z4h]) (Ext.pure hs hl) hb

theorem z5p (i n:Nat):∀ s:SV,Wk s (s.killIn i n)∧(∀ j∈(s.killIn i n).roots,j∈s.roots)∧(∀ j∈(s.killIn i n).boxes,j∈s.boxes)∧(∀ p∈(s.killIn i n).paths i,ixs p≤n)
 | .val _ _=>⟨.same _,by simp [SV.killIn,SV.roots],by simp [SV.killIn,SV.boxes],by simp [SV.killIn,SV.paths]⟩
 | .ref j p=>by
  simp only [SV.killIn,z4m]
  by_cases h:i=j
  ·subst h
   cases hb:Nat.blt n (ixs p)
   ·simp only [decide_true,Bool.true_and,cond_false]
    refine ⟨.same _,by simp [SV.roots],by simp [SV.boxes],fun q hq=>?_⟩
    simp only [SV.paths,z4m,decide_true,cond_true,List.mem_singleton] at hq
    subst hq
    rcases Nat.lt_or_ge n (ixs q) with h | h
    ·have:Nat.blt n (ixs q)=true:=Nat.ble_eq_true_of_le h
     rw [this] at hb; cases hb
    ·exact h
   ·simp only [decide_true,Bool.true_and,cond_true]
    exact ⟨.ref _ _,by simp [SV.roots],by simp [SV.boxes],by simp [SV.paths]⟩
  ·simp only [h,decide_false,Bool.false_and,cond_false]
   exact ⟨.same _,by simp [SV.roots],by simp [SV.boxes],by simp [SV.paths,z4m,h]⟩
 | .vw j a b=>⟨.same _,by simp [SV.killIn,SV.roots],by simp [SV.killIn,SV.boxes],by
  intro q hq
  simp only [SV.killIn,SV.paths,z4m] at hq
  by_cases h:i=j
  ·simp only [h,decide_true,cond_true,List.mem_singleton] at hq; subst hq; exact Nat.zero_le _
  ·simp [h] at hq⟩
 | .ls j=>⟨.same _,by simp [SV.killIn,SV.roots],by simp [SV.killIn,SV.boxes],by simp [SV.killIn,SV.paths]⟩
 | .st s=>by
  obtain ⟨h1,h2,h3,h4⟩:=z5p i n s
  exact ⟨.st h1,h2,h3,h4⟩
 | .pr a b=>by
  obtain ⟨h1,h2,h3,h4⟩:=z5p i n a
  obtain ⟨k1,k2,k3,k4⟩:=z5p i n b
  refine ⟨.pr h1 k1,fun j hj=>?_,fun j hj=>?_,fun p hp=>?_⟩
  ·simp only [SV.killIn,SV.roots,List.mem_append] at hj ⊢
   exact hj.imp (h2 j) (k2 j)
  ·simp only [SV.killIn,SV.boxes,List.mem_append] at hj ⊢
   exact hj.imp (h3 j) (k3 j)
  ·simp only [SV.killIn,SV.paths,List.mem_append] at hp
   exact hp.elim (h4 p) (k4 p)
 | .bp _ _ _=>⟨.same _,by simp [SV.killIn,SV.roots],by simp [SV.killIn,SV.boxes],by simp [SV.killIn,SV.paths]⟩
 | .ep j p m f o=>by
  simp only [SV.killIn,z4m]
  by_cases h:i=j
  ·subst h
   cases hb:Nat.blt n (ixs p)
   ·simp only [decide_true,Bool.true_and,cond_false]
    refine ⟨.same _,by simp [SV.roots],by simp [SV.boxes],fun q hq=>?_⟩
    simp only [SV.paths,z4m,decide_true,cond_true,List.mem_singleton] at hq
    subst hq
    rcases Nat.lt_or_ge n (ixs q) with h | h
    ·have:Nat.blt n (ixs q)=true:=Nat.ble_eq_true_of_le h
     rw [this] at hb; cases hb
    ·exact h
   ·simp only [decide_true,Bool.true_and,cond_true]
    exact ⟨.ep _ _ _ _ _,by simp [SV.roots],by simp [SV.boxes],by simp [SV.paths]⟩
  ·simp only [h,decide_false,Bool.false_and,cond_false]
   exact ⟨.same _,by simp [SV.roots],by simp [SV.boxes],by simp [SV.paths,z4m,h]⟩
 | .lp _ _=>⟨.same _,by simp [SV.killIn,SV.roots],by simp [SV.killIn,SV.boxes],by simp [SV.killIn,SV.paths]⟩
 | .clo g s=>by
  obtain ⟨h1,h2,h3,h4⟩:=z5p i n s
  exact ⟨.clo g h1,h2,h3,h4⟩
 | .tup s=>by
  obtain ⟨h1,h2,h3,h4⟩:=z5p i n s
  exact ⟨.tup h1,h2,h3,h4⟩
 | .cns a b=>by
  obtain ⟨h1,h2,h3,h4⟩:=z5p i n a
  obtain ⟨k1,k2,k3,k4⟩:=z5p i n b
  refine ⟨.cns h1 k1,fun j hj=>?_,fun j hj=>?_,fun p hp=>?_⟩
  ·simp only [SV.killIn,SV.roots,List.mem_append] at hj ⊢
   exact hj.imp (h2 j) (k2 j)
  ·simp only [SV.killIn,SV.boxes,List.mem_append] at hj ⊢
   exact hj.imp (h3 j) (k3 j)
  ·simp only [SV.killIn,SV.paths,List.mem_append] at hp
   exact hp.elim (h4 p) (k4 p)
 | .nl=>⟨.same _,by simp [SV.killIn,SV.roots],by simp [SV.killIn,SV.boxes],by simp [SV.killIn,SV.paths]⟩
 | .no=>⟨.same _,by simp [SV.killIn,SV.roots],by simp [SV.killIn,SV.boxes],by simp [SV.killIn,SV.paths]⟩
 | .er _=>⟨.same _,by simp [SV.killIn,SV.roots],by simp [SV.killIn,SV.boxes],by simp [SV.killIn,SV.paths]⟩
 | .un=>⟨.same _,by simp [SV.killIn,SV.roots],by simp [SV.killIn,SV.boxes],by simp [SV.killIn,SV.paths]⟩
theorem Rep.killIn (R:Rep E w0 ok O σ tm w M) (i n:Nat):Rep E w0 ok O (σ.killIn i n) tm w M∧(∀ s v,lk (σ.killIn i n).sl s=some v→∀ p∈v.paths i,ixs p≤n)∧(∀ j b,lk (σ.killIn i n).bx j=some b→∀ p∈b.c.paths i,ixs p≤n):=by
 have hsl:∀ s v,lk (σ.killIn i n).sl s=some v→∃ u,lk σ.sl s=some u∧v=SV.killIn i n u:=fun s v h=>by
  have h:lk (zw (SV.killIn i n) σ.sl) s=some v:=h
  rw [z24] at h
  obtain ⟨u,h1,rfl⟩:=Option.map_eq_some_iff.1 h
  exact ⟨u,h1,rfl⟩
 have hbx:∀ j b,lk (σ.killIn i n).bx j=some b→∃ u,lk σ.bx j=some u∧b=⟨u.ty,SV.killIn i n u.c⟩:=fun j b h=>by
  have h:lk (zw (fun b:Bx=>(⟨b.ty,b.c.killIn i n⟩:Bx)) σ.bx) j=some b:=h
  rw [z24] at h
  obtain ⟨u,h1,rfl⟩:=Option.map_eq_some_iff.1 h
  exact ⟨u,h1,rfl⟩
 refine ⟨R.mapped (SV.killIn i n) (fun s=>(z5p i n s).1) (fun j r h=>h) hsl hbx (fun u hu=>⟨fun j hj=>hu.rows j ((z5p i n u).2.1 j hj),fun j hj=>?_⟩),fun s v h=>?_,fun j b h=>?_⟩
 ·obtain ⟨b,hb⟩:=hu.boxes j ((z5p i n u).2.2.1 j hj)
  exact ⟨_,by show lk (zw _ σ.bx) j=_; rw [z24,hb]; rfl⟩
 ·obtain ⟨u,_,rfl⟩:=hsl s v h
  exact (z5p i n u).2.2.2
 ·obtain ⟨u,_,rfl⟩:=hbx j b h
  exact (z5p i n u.c).2.2.2
theorem Sub.killIn (σ:St) (i n:Nat):Sub (σ.killIn i n) σ:=⟨fun j r h=>h,fun j b h=>by
  have h:lk (zw (fun b:Bx=>(⟨b.ty,b.c.killIn i n⟩:Bx)) σ.bx) j=some b:=h
  rw [z24] at h
  obtain ⟨u,h1,_⟩:=Option.map_eq_some_iff.1 h
  exact ⟨u,h1⟩⟩
end

section
variable {P : Program} {E : Env} {w0 : World} {ok O : Nat → Prop} {σ σ' : St} {tm : Array Value} {w w' : World} {M : Map} {a : Act}

theorem zw8 {F:Frz} {e:TypeId} {t:Ty} {lq:L (.sl e t)} {n g:Nat} {l0 l0':L t} {p ds c new:List Value} (hh:holds F w (.sl e t) lq) (hg:lq.1=some g) (h0:lq.2.2[n]?=some l0) (hc:z8 t l0=p++ds++c) (hc':z8 t l0'=p++new++c) (hlen:new.length=ds.length) (hn:(z6 (.sl e t) lq).Nodup) :
  ∃ cur fz,w.heap[g]?=some (.cells cur e fz)∧(n*t.sz+p.length)+new.length≤cur.size∧(fz=(0,0)∨(n*t.sz+p.length)+new.length≤fz.1) ∧
   ∀ w':World,w'.heap[g]?=some (.cells (cur.toList.take (n*t.sz+p.length)++new++cur.toList.drop (n*t.sz+p.length+new.length)).toArray e fz)→(∀ k,k≠g→w'.heap[k]?=w.heap[k]?) →
    (holds F w' t l0'→holds F w' (.sl e t) (lq.1,lq.2.1,lq.2.2.set n l0'))∧(plain w (.sl e t) lq→plain w' t l0'→plain w' (.sl e t) (lq.1,lq.2.1,lq.2.2.set n l0'))∧(∀ k∈z6 t l0,k≠g):=by
 obtain ⟨h1,h2⟩:=hh
 rw [hg] at h1
 obtain ⟨cur,fz,hcur,hl,hm,hsz,htk,hfz⟩:=h1
 obtain ⟨hlt,hxe⟩:=List.getElem?_eq_some_iff.1 h0
 have hsplit:lq.2.2=lq.2.2.take n++l0::lq.2.2.drop (n+1):=by
  rw [← hxe,← List.drop_eq_getElem_cons hlt,List.take_append_drop]
 have hset:lq.2.2.set n l0'=lq.2.2.take n++l0'::lq.2.2.drop (n+1):=by rw [List.set_eq_take_append_cons_drop,if_pos hlt]
 have hX1:((lq.2.2.take n).flatMap (z8 t)).length=n*t.sz:=by rw [z1l,List.length_take,Nat.min_eq_left (Nat.le_of_lt hlt)]
 have hflat:lq.2.2.flatMap (z8 t)=(lq.2.2.take n).flatMap (z8 t)++p++ds++c++(lq.2.2.drop (n+1)).flatMap (z8 t):=by
  conv=>lhs; rw [hsplit]
  simp [hc,List.append_assoc]
 have hflat':(lq.2.2.set n l0').flatMap (z8 t)=(lq.2.2.take n).flatMap (z8 t)++p++new++c++(lq.2.2.drop (n+1)).flatMap (z8 t):=by
  rw [hset]
  simp [hc',List.append_assoc]
 have hcl:lq.2.2.length*t.sz≤cur.size:=Nat.le_trans (Nat.mul_le_mul_right _ hl) hsz
 have hin:(n*t.sz+p.length)+new.length≤lq.2.2.length*t.sz:=by
  have:=congrArg List.length hflat
  rw [z1l] at this
  simp only [List.length_append,hX1] at this
  omega
 have hcurl:cur.toList=(lq.2.2.take n).flatMap (z8 t)++p++ds++c++(lq.2.2.drop (n+1)).flatMap (z8 t)++cur.toList.drop (lq.2.2.length*t.sz):=by
  rw [← hflat,← htk,List.take_append_drop]
 have hb:z6 (.sl e t) lq=g::((lq.2.2.take n).flatMap (z6 t))++z6 t l0++(lq.2.2.drop (n+1)).flatMap (z6 t):=by
  simp only [z6,hg,Option.toList_some]
  conv=>lhs; rw [hsplit]
  simp [List.append_assoc]
 rw [hb] at hn
 have hgn:g∉(lq.2.2.take n).flatMap (z6 t)++z6 t l0++(lq.2.2.drop (n+1)).flatMap (z6 t):=by
  simp only [List.cons_append,List.nodup_cons] at hn
  exact hn.1
 refine ⟨cur,fz,hcur,by omega,hfz.imp id (fun h=>by omega),fun w' hw' hk=>⟨fun hl0=>⟨?_,?_⟩,fun hp hl0=>⟨?_,?_⟩,fun k hk2 e=>hgn (by rw [← e]; simp [hk2])⟩⟩
 ·simp only [hg]
  refine ⟨_,fz,hw',by rw [List.length_set]; exact hl,hm,?_,?_,by rw [List.length_set]; exact hfz⟩
  ·simp only [List.size_toArray,List.length_append,List.length_take,List.length_drop,Array.length_toList]
   omega
  ·rw [List.length_set,hflat']
   have e1:cur.toList.take (n*t.sz+p.length)=(lq.2.2.take n).flatMap (z8 t)++p:=by
    rw [hcurl]
    simp only [List.append_assoc]
    rw [← List.append_assoc,List.take_left' (by rw [List.length_append,hX1])]
   have e2:cur.toList.drop (n*t.sz+p.length+new.length)=c++(lq.2.2.drop (n+1)).flatMap (z8 t)++cur.toList.drop (lq.2.2.length*t.sz):=by
    conv=>lhs; rw [hcurl]
    simp only [List.append_assoc]
    rw [← List.append_assoc,← List.append_assoc,List.drop_left' (by simp only [List.length_append,hX1,hlen])]
   rw [e1,e2]
   simp only [← List.append_assoc]
   rw [List.take_left']
   have:=congrArg List.length hflat
   rw [z1l] at this
   simp only [List.length_append] at this ⊢
   omega
 ·intro y hy
  have hy:y∈lq.2.2.set n l0':=hy
  rw [hset] at hy
  rcases List.mem_append.1 hy with hm | hm
  ·exact z1t (fun k hk2=>hk k (fun e=>hgn (by rw [← e]; simp only [List.mem_append,List.mem_flatMap]; exact .inl (.inl ⟨y,hm,hk2⟩)))) (h2 y (List.mem_of_mem_take hm))
  ·rcases List.mem_cons.1 hm with rfl | hm
   ·exact hl0
   ·exact z1t (fun k hk2=>hk k (fun e=>hgn (by rw [← e]; simp only [List.mem_append,List.mem_flatMap]; exact .inr ⟨y,hm,hk2⟩))) (h2 y (List.mem_of_mem_drop hm))
 ·intro b hb2
  have hb2:lq.1=some b:=hb2
  rw [hg] at hb2
  cases hb2
  obtain ⟨cur',e',k1,k2⟩:=hp.1 g hg
  rw [hcur] at k1
  cases k1
  refine ⟨_,e,hw',?_⟩
  simp only [List.size_toArray,List.length_append,List.length_take,List.length_drop,Array.length_toList]
  rw [← k2]
  omega
 ·intro y hy
  have hy:y∈lq.2.2.set n l0':=hy
  rw [hset] at hy
  rcases List.mem_append.1 hy with hm | hm
  ·exact z1u (fun k hk2=>hk k (fun e=>hgn (by rw [← e]; simp only [List.mem_append,List.mem_flatMap]; exact .inl (.inl ⟨y,hm,hk2⟩)))) (hp.2 y (List.mem_of_mem_take hm))
  ·rcases List.mem_cons.1 hm with rfl | hm
   ·exact hl0
   ·exact z1u (fun k hk2=>hk k (fun e=>hgn (by rw [← e]; simp only [List.mem_append,List.mem_flatMap]; exact .inr ⟨y,hm,hk2⟩))) (hp.2 y (List.mem_of_mem_drop hm))

theorem zfe (p q:List Step):ixs (p++q)=ixs p+ixs q:=by
 induction p with
 | nil=>simp [ixs]
 | cons s p ih=>cases s <;> simp [ixs,ih]; omega
theorem zn6 (f:List Bool):ixs (f.map z3i)=0:=by
 induction f with
 | nil=>rfl
 | cons b f ih=>simp [ixs,z3i,ih]

theorem zj2 {R0:Type} {res:R0} (R:Rep E w0 ok O σ tm w M) {j n g c:Nat} {q:List Step} {f:List Bool} {e:TypeId} {t:Ty} {lq:L (.sl e t)} (hq:zr (M.loc j).1 (M.loc j).2 q=some ⟨.sl e t,lq⟩) (hg:lq.1=some g)
  {u:Ty} {y:L u} (hy:holds (Rd w0 ok) w u y) (hyp:plain w u y) (hyf:Free w0 ok O σ M (z6 u y))
  (hS:∀ s v,lk σ.sl s=some v→∀ p∈v.paths j,u.flat=true∨ixs p≤ixs q) (hB:∀ i b,lk σ.bx i=some b→∀ p∈b.c.paths j,u.flat=true∨ixs p≤ixs q)
  {k:St→Option R0} (h:zad σ j (q++[.ix n]) f c u (erase u y) k=some res) :
  ∃ σ' M' cur fz,k σ'=some res∧w.heap[g]?=some (.cells cur e fz)∧(n*t.sz+c)+u.sz≤cur.size∧(fz=(0,0)∨(n*t.sz+c)+u.sz≤fz.1) ∧
   ∀ w':World,w'.heap[g]?=some (.cells (cur.toList.take (n*t.sz+c)++z8 u y++cur.toList.drop (n*t.sz+c+u.sz)).toArray e fz)→(∀ k,k≠g→w'.heap[k]?=w.heap[k]?)→Kept (fun k=>k=g) w w'→Rep E w0 ok O σ' tm w' M':=by
 unfold zad at h
 split at h
 ·rename_i r hr
  obtain ⟨l,hl,he,hh,hnd,hpl⟩:=R.rows j r hr
  rw [hl] at hq
  rw [← he,z2r,z45,zat hq] at h
  cases hn:lq.2.2[n]? with
  | none=>rw [hn] at h; cases h
  | some l0 =>
   rw [hn] at h
   simp only [Option.bind_some,z2y,Option.map_some] at h
   simp only [zcs] at h
   cases ho:Nat.beq (t.offP f) c <;> rw [ho] at h
   ·cases h
   ·have ho:=Nat.eq_of_beq_eq_true ho
    simp only [cond_true] at h
    rw [z7h] at h
    obtain ⟨l0',h0',h⟩:=Option.bind_eq_some_iff.1 h
    rw [z7h] at h
    obtain ⟨l',h1',h⟩:=Option.bind_eq_some_iff.1 h
    -- the pieces
    obtain ⟨v,z,P1⟩:=zb1 w t l0 f u y l0' h0'
    have hfull:zg (.sl r.e r.t) l ((q++[.ix n])++f.map z3i) u y=some l':=by
     rw [z8a,zat hq,hn]
     simp only [Option.bind_some,z2y,h0']
     exact h1'
    rw [z8a,hq] at h1'
    simp only [Option.bind_some] at h1'
    have hone:zg (.sl e t) lq [.ix n] t l0'=some (lq.1,lq.2.1,lq.2.2.set n l0'):=by
     show (lq.2.2[n]?).bind (fun z=>(zg t z [] t l0').map _)=_
     rw [hn,Option.bind_some,z3e]
     rfl
    rw [hone,Option.bind_some] at h1'
    obtain ⟨p,cc,e1,e2,e3⟩:=P1.cells
    have hgb:g∈z6 (.sl e t) lq:=by simp [z6,hg]
    obtain ⟨hqh,hqb⟩:=subL_holds hq hh
    have hszz:(z8 u y).length=(z8 v z).length:=by rw [z1s,z1s,P1.sz]
    have hgl:g∈z6 (.sl r.e r.t) l:=hqb g hgb
    obtain ⟨A,C,b1,b2⟩:∃ A C,z6 (.sl r.e r.t) l=A++z6 (.sl e t) lq++C∧z6 (.sl r.e r.t) l'=A++z6 (.sl e t) (lq.1,lq.2.1,lq.2.2.set n l0')++C :=
     (z8b (F:=fun _ _ _=>False) (w:=w) (w':=w) (fun _ _=>rfl) (.sl r.e r.t) l q (.sl e t) lq (lq.1,lq.2.1,lq.2.2.set n l0') l' hq h1' (by simp [z8]) hnd hgb).2.2.2
    have hndq:(z6 (.sl e t) lq).Nodup:=by
     rw [b1] at hnd
     exact (List.nodup_append.1 (List.nodup_append.1 hnd).1).2.1
    obtain ⟨cur,fz,k1,k2,k3,k4⟩:=zw8 hqh hg hn e1 e2 hszz hndq
    rw [e3,ho,z1s] at k2 k3
    obtain ⟨A1,C1,b3,b4⟩:=P1.bl
    obtain ⟨hlt,hxe⟩:=List.getElem?_eq_some_iff.1 hn
    have hsplit:lq.2.2=lq.2.2.take n++l0::lq.2.2.drop (n+1):=by
     rw [← hxe,← List.drop_eq_getElem_cons hlt,List.take_append_drop]
    have hset:lq.2.2.set n l0'=lq.2.2.take n++l0'::lq.2.2.drop (n+1):=by rw [List.set_eq_take_append_cons_drop,if_pos hlt]
    have hbA:∃ A2 C2,z6 (.sl r.e r.t) l=A2++z6 v z++C2∧z6 (.sl r.e r.t) l'=A2++z6 u y++C2:=by
     refine ⟨A++lq.1.toList++(lq.2.2.take n).flatMap (z6 t)++A1,C1++(lq.2.2.drop (n+1)).flatMap (z6 t)++C,?_,?_⟩
     ·rw [b1]
      simp only [z6]
      conv=>lhs; rw [hsplit]
      simp [b3,List.append_assoc]
     ·rw [b2]
      simp only [z6]
      rw [hset]
      simp [b4,List.append_assoc]
    obtain ⟨A2,C2,b5,b6⟩:=hbA
    have hnd':(z6 (.sl r.e r.t) l').Nodup:=by
     have hnd2:=hnd
     rw [b5] at hnd2
     obtain ⟨m1,m2,m3⟩:=List.nodup_append.1 hnd2
     obtain ⟨m4,m5,m6⟩:=List.nodup_append.1 m1
     have hyl:∀ k∈z6 u y,k∉z6 (.sl r.e r.t) l:=fun k hk=>by
      have:=hyf.rows j ⟨r,hr⟩ k hk
      rw [hl] at this; exact this
     rw [b6]
     refine List.nodup_append.2 ⟨List.nodup_append.2 ⟨m4,hyf.nd,fun x hx z hz e=>?_⟩,m2,fun x hx z hz e=>?_⟩
     ·subst e; exact hyl x hz (by rw [b5]; simp [hx])
     ·subst e
      rcases List.mem_append.1 hx with hx | hx
      ·exact m3 x (List.mem_append.2 (.inl hx)) x hz rfl
      ·exact hyl x hx (by rw [b5]; simp [hz])
    refine ⟨_,z1g M j ⟨.sl r.e r.t,l'⟩,cur,fz,h,k1,k2,k3,fun w' hw' hoth hkept=>?_⟩
    obtain ⟨k5,k6,k7⟩:=k4 w' (by rw [e3,ho,z1s]; exact hw') hoth
    have hl0:holds (Rd w0 ok) w t l0:=hqh.2 l0 (List.mem_of_getElem? hn)
    have hygn:∀ k∈z6 u y,k≠g:=fun k hk e=>by
     have:=hyf.rows j ⟨r,hr⟩ k hk
     rw [hl] at this
     exact this (e▸hgl)
    have hl0':holds (Rd w0 ok) w' t l0':=by
     have hy':holds (Rd w0 ok) w' u y:=z1t (fun k hk=>hoth k (hygn k hk)) hy
     obtain ⟨v2,z2,P2⟩:=zb1 w' t l0 f u y l0' h0'
     exact P2.ho _ (z1t (fun k hk=>hoth k (k7 k hk)) hl0) hy'
    obtain ⟨o1,o2,o3,_⟩:=z8b (w:=w) (w':=w') (g:=g) hoth (.sl r.e r.t) l q (.sl e t) lq (lq.1,lq.2.1,lq.2.2.set n l0') l' hq h1' (by simp [z8]) hnd hgb
    refine R.upd hr hl (hkept.trans (Kept.refl (fun k=>k=g) w') (fun _ _ h=>h) |> fun hk=>⟨hk.os,hk.tape,hk.output,hk.size,fun k hk1 hk2=>hk.block k hk1 (fun e=>hk2 (e▸hgl))⟩) (o2 hh (k5 hl0')) hnd' (fun hz=>?_) o1 (fun k hk=>?_) hyf (fun s v hv p hp=>?_) (fun i b hb p hp=>?_)
    ·have hlp:=hpl hz
     have hqp:plain w (.sl e t) lq:=by
      have key:∀ (t:Ty) (x:L t) (q:List Step) (v:Loc),zr t x q=some v→plain w t x→plain w v.1 v.2:=by
       intro t
       induction t with
       | sl e t ih =>
        intro x q v hv hx
        match q with
        | []=>cases hv; exact hx
        | .f _::_=>cases hv
        | .u::_=>cases hv
        | .ix n::q =>
         obtain ⟨z,hz,hv⟩:=Option.bind_eq_some_iff.1 hv
         exact ih z q v hv (hx.2 z (List.mem_of_getElem? hz))
       | st t ih =>
        intro x q v hv hx
        match q with
        | []=>cases hv; exact hx
        | .u::q=>exact ih x q v hv hx
        | .ix n::q=>exact ih x (.ix n::q) v hv hx
        | .f b::q=>exact ih x (.f b::q) v hv hx
       | pr a b iha ihb =>
        intro x q v hv hx
        match q with
        | []=>cases hv; exact hx
        | .ix _::_=>cases hv
        | .u::_=>cases hv
        | .f false::q=>exact iha x.1 q v hv hx.1
        | .f true::q=>exact ihb x.2 q v hv hx.2
       | int k=>intro x q v hv hx; match q with | []=>cases hv; exact hx | _::_=>cases hv
       | bool=>intro x q v hv hx; match q with | []=>cases hv; exact hx | _::_=>cases hv
       | str=>intro x q v hv hx; match q with | []=>cases hv; exact hx | _::_=>cases hv
       | un=>intro x q v hv hx; match q with | []=>cases hv; exact hx | _::_=>cases hv
       | ptr t _=>intro x; exact x.elim
       | rd t _=>intro x q v hv hx; match q with | []=>cases hv; exact hx | _::_=>cases hv
       | fn g c _=>intro x; exact x.elim
       | fs ids=>intro x; exact x.elim
      exact key _ _ _ _ hq hlp
     have hl0p:plain w t l0:=hqp.2 l0 (List.mem_of_getElem? hn)
     have hyp':plain w' u y:=z1u (fun k hk=>hoth k (hygn k hk)) hyp
     obtain ⟨v2,z2,P2⟩:=zb1 w' t l0 f u y l0' h0'
     exact o3 hlp (k6 hqp (P2.pl (z1u (fun k hk=>hoth k (k7 k hk)) hl0p) hyp'))
    ·rw [b6] at hk
     rw [b5]
     simp only [List.mem_append] at hk ⊢
     rcases hk with (hk | hk) | hk
     ·exact .inl (.inl (.inl hk))
     ·exact .inr hk
     ·exact .inl (.inr hk)
    ·rcases hS s v hv p hp with hf | hle
     ·exact z50 _ _ _ _ _ _ _ hfull hf
     ·exact z3o _ _ _ _ _ _ _ hfull (by rw [zfe,zfe,zn6]; simp [ixs]; omega)
    ·rcases hB i b hb p hp with hf | hle
     ·exact z50 _ _ _ _ _ _ _ hfull hf
     ·exact z3o _ _ _ _ _ _ _ hfull (by rw [zfe,zfe,zn6]; simp [ixs]; omega)
 ·cases h
end

section
variable {P : Program} {E : Env} {w0 : World} {ok O : Nat → Prop} {σ σ' : St} {tm : Array Value} {w w' : World} {M : Map} {a : Act}

theorem zn7 {s r:SV} {cs:List Value} (h:za w0 ok M r cs):za w0 ok M (s.frame r) cs:=by
 unfold SV.frame
 cases s.isSt
 ·exact h
 ·exact h
theorem zff (s r:SV):(s.frame r).roots=r.roots∧(s.frame r).boxes=r.boxes:=by
 unfold SV.frame
 cases s.isSt <;> exact ⟨rfl,rfl⟩
theorem z8d {s l r:SV} (hl:s.half false=some l) (hr:s.half true=some r) (i:Nat):(i∈l.roots∨i∈r.roots→i∈s.roots)∧(i∈l.boxes∨i∈r.boxes→i∈s.boxes):=by
 match s,hl,hr with
 | .val (.pr a b) x,hl,hr=>cases hl; cases hr; simp [SV.roots,SV.boxes]
 | .val (.st (.pr a b)) x,hl,hr=>cases hl; cases hr; simp [SV.roots,SV.boxes]
 | .pr a b,hl,hr=>cases hl; cases hr; simp [SV.roots,SV.boxes]
 | .st (.pr a b),hl,hr=>cases hl; cases hr; simp [SV.roots,SV.boxes]
theorem zj3:∀ {q:List Bool} {s old y c:SV} {cs ys:List Value},za w0 ok M s cs→s.part q=some old→s.setPart q y=some c→za w0 ok M y ys→ys.length=old.w →
  (∃ A ds C,cs=A++ds++C∧A.length=s.offP q∧ds.length=ys.length∧za w0 ok M c (A++ys++C))∧(∀ i,(i∈c.roots→i∈s.roots∨i∈y.roots)∧(i∈c.boxes→i∈s.boxes∨i∈y.boxes))
 | [],s,old,y,c,cs,ys,h,hp,hc,hy,hl=>by
  cases hp
  cases hc
  exact ⟨⟨[],cs,[],by simp,by cases s <;> rfl,by rw [za.len h,hl],by simpa using hy⟩,fun i=>⟨.inr,.inr⟩⟩
 | b::q,s,old,y,c,cs,ys,h,hp,hc,hy,hl=>by
  simp only [SV.part] at hp
  split at hp
  ·rename_i z hz
   obtain ⟨l,r,h1,h2,rfl⟩:=zls hz
   obtain ⟨c1,c2,rfl,hl1,hr1⟩:=zlr h h1 h2
   simp only [SV.setPart,h1,h2] at hc
   cases b with
   | false =>
    simp only [] at hc
    split at hc
    ·rename_i l' hl'
     cases hc
     obtain ⟨⟨A,ds,C,rfl,e1,e2,e3⟩,e4⟩:=zj3 hl1 hp hl' hy hl
     refine ⟨⟨A,ds,C++c2,by simp,by simp only [SV.offP,h1,h2]; exact e1,e2,?_⟩,fun i=>⟨fun hi=>?_,fun hi=>?_⟩⟩
     ·exact zn7 ⟨A++ys++C,c2,by simp,e3,hr1⟩
     ·rw [(zff _ _).1] at hi
      simp only [SV.roots,List.mem_append] at hi
      rcases hi with hi | hi
      ·exact ((e4 i).1 hi).imp (fun h=>(z8d h1 h2 i).1 (.inl h)) id
      ·exact .inl ((z8d h1 h2 i).1 (.inr hi))
     ·rw [(zff _ _).2] at hi
      simp only [SV.boxes,List.mem_append] at hi
      rcases hi with hi | hi
      ·exact ((e4 i).2 hi).imp (fun h=>(z8d h1 h2 i).2 (.inl h)) id
      ·exact .inl ((z8d h1 h2 i).2 (.inr hi))
    ·cases hc
   | true =>
    simp only [] at hc
    split at hc
    ·rename_i r' hr'
     cases hc
     obtain ⟨⟨A,ds,C,rfl,e1,e2,e3⟩,e4⟩:=zj3 hr1 hp hr' hy hl
     refine ⟨⟨c1++A,ds,C,by simp,by simp only [SV.offP,h1,h2,List.length_append,za.len hl1]; rw [e1],e2,?_⟩,fun i=>⟨fun hi=>?_,fun hi=>?_⟩⟩
     ·exact zn7 ⟨c1,A++ys++C,by simp,hl1,e3⟩
     ·rw [(zff _ _).1] at hi
      simp only [SV.roots,List.mem_append] at hi
      rcases hi with hi | hi
      ·exact .inl ((z8d h1 h2 i).1 (.inl hi))
      ·exact ((e4 i).1 hi).imp (fun h=>(z8d h1 h2 i).1 (.inr h)) id
     ·rw [(zff _ _).2] at hi
      simp only [SV.boxes,List.mem_append] at hi
      rcases hi with hi | hi
      ·exact .inl ((z8d h1 h2 i).2 (.inl hi))
      ·exact ((e4 i).2 hi).imp (fun h=>(z8d h1 h2 i).2 (.inr h)) id
    ·cases hc
  ·cases hp
theorem zw9:∀ {o s:SV} {cs:List Value},za w0 ok M s cs→za w0 ok M (o.like s) cs∧(o.like s).roots=s.roots∧(o.like s).boxes=s.boxes:=by
 intro o
 induction o with
 | st o ih =>
  intro s cs h
  cases s with
  | st s=>exact ih (s:=s) h
  | val t x=>cases t <;> exact ⟨h,rfl,rfl⟩
  | _=>exact ⟨h,rfl,rfl⟩
 | val t x =>
  intro s cs h
  cases t with
  | st t =>
   cases s with
   | st s=>exact ⟨h,rfl,rfl⟩
   | val u y=>cases u <;> exact ⟨h,rfl,rfl⟩
   | _=>exact ⟨h,rfl,rfl⟩
  | _=>exact ⟨h,rfl,rfl⟩
 | _=>intro s cs h; exact ⟨h,rfl,rfl⟩

theorem Rep.updB (R:Rep E w0 ok O σ tm w M) {j:Nat} {b:Bx} (hb:lk σ.bx j=some b) {c:SV} {cs:List Value} (hk:Kept (fun k=>k=M.blk j) w w') (hc:za w0 ok M c cs) (hw:w'.heap[M.blk j]?=some (.cells cs.toArray b.ty (0,0)))
  (hl:Live σ c):Rep E w0 ok O (σ.setBox j ⟨b.ty,c⟩) tm w' M:=by
 have hbx:∀ i q,lk (σ.setBox j ⟨b.ty,c⟩).bx i=some q→(i=j∧q=⟨b.ty,c⟩)∨(i≠j∧lk σ.bx i=some q):=by
  intro i q hq
  have hq2:lk (up σ.bx j _) i=some q:=hq
  rw [z6o] at hq2
  split at hq2
  ·rename_i e
   obtain ⟨q',_,rfl⟩:=Option.map_eq_some_iff.1 hq2
   exact .inl ⟨e.symm,rfl⟩
  ·rename_i e
   exact .inr ⟨fun h=>e h.symm,hq2⟩
 have hbx1:∀ i,(∃ q,lk (σ.setBox j ⟨b.ty,c⟩).bx i=some q)→∃ q,lk σ.bx i=some q:=by
  rintro i ⟨q,hq⟩
  rcases hbx i q hq with ⟨rfl,_⟩ | ⟨_,h⟩
  ·exact ⟨b,hb⟩
  ·exact ⟨q,h⟩
 have hbx2:∀ i,(∃ q,lk σ.bx i=some q)→∃ q,lk (σ.setBox j ⟨b.ty,c⟩).bx i=some q:=by
  rintro i ⟨q,hq⟩
  show ∃ q,lk (up σ.bx j _) i=some q
  rw [z6o,hq]
  split
  ·exact ⟨_,rfl⟩
  ·exact ⟨q,rfl⟩
 have liveOf:∀ u,Live σ u→Live (σ.setBox j ⟨b.ty,c⟩) u:=fun u hu=>⟨hu.rows,fun i hi=>hbx2 i (hu.boxes i hi)⟩
 constructor
 ·exact R.slots
 ·intro i r hr
  obtain ⟨l,h1,h2,h3,h4,h5⟩:=R.rows i r hr
  have hmv:∀ k∈z6 (.sl r.e r.t) l,w'.heap[k]?=w.heap[k]?:=fun k hk2=>hk.block k (z1d h3 k hk2) (fun e=>R.rb i j ⟨r,hr⟩ ⟨b,hb⟩ (by rw [h1]; exact e▸hk2))
  exact ⟨l,h1,h2,z1t hmv h3,h4,fun hz=>z1u hmv (h5 hz)⟩
 ·intro i q hq
  rcases hbx i q hq with ⟨rfl,rfl⟩ | ⟨hne,h⟩
  ·refine ⟨cs,zu hc,hw,fun hch=>?_⟩
   exfalso
   cases c <;> first | (cases hch; done) | exact hc.elim
  ·obtain ⟨cs',h1,h2,h3⟩:=R.boxes i q h
   exact ⟨cs',h1,(hk.block _ (Array.getElem?_eq_some_iff.1 h2).1 (R.bb i j hne ⟨q,h⟩ ⟨b,hb⟩)).trans h2,h3⟩
 ·exact R.rr
 ·exact fun i k hik hi hk2=>R.bb i k hik (hbx1 i hi) (hbx1 k hk2)
 ·exact fun i k hi hk2=>R.rb i k hi (hbx1 k hk2)
 ·exact R.ownR
 ·exact fun i hi=>R.ownB i (hbx1 i hi)
 ·exact R.okB
 ·exact fun s v h=>liveOf v (R.liveS s v h)
 ·intro i q hq
  rcases hbx i q hq with ⟨rfl,rfl⟩ | ⟨hne,h⟩
  ·exact liveOf c hl
  ·exact liveOf q.c (R.liveB i q h)
 ·refine R.kept.trans hk fun k hk0 hk1=>?_
  rcases (R.ownB j ⟨b,hb⟩).2 with h | h
  ·exact hk1▸h
  ·omega
 ·exact R.pin
 ·exact fun i hi hq=>R.pinB i hi (hbx1 i hq)

theorem zn8 {R0:Type} {res:R0} (R:Rep E w0 ok O σ tm w M) (T:zb P E.ti=true) {j c:Nat} {q:List Bool} {s:SV} {k:St→Option R0} (h:zcg.boxC σ j q c s k=some res)
  {t:TypeId} {v:Value} {cs:List Value} (hs:za w0 ok M s cs) (hl:Live σ s) (hv:v.cells=cs.toArray) (hlen:cs.length=(E.tyOf t).sz) (h0:(E.tyOf t).sz≠0) :
  ∃ w' σ',(Instr.storeAt t (.pointer (some ⟨M.blk j,c,none⟩)) v).run P w=.ok () w'∧k σ'=some res∧Rep E w0 ok O σ' tm w' M:=by
 unfold zcg.boxC at h
 split at h
 ·rename_i b hb
  split at h
  ·rename_i old hp
   split at h
   ·rename_i c' hc
    cases hk:(Nat.beq (b.c.offP q) c&&Nat.beq old.w s.w) <;> rw [hk] at h
    ·cases h
    ·simp only [Bool.and_eq_true] at hk
     have k1:=Nat.eq_of_beq_eq_true hk.1
     have k2:=Nat.eq_of_beq_eq_true hk.2
     simp only [cond_true] at h
     obtain ⟨cs0,g1,g2,g3⟩:=R.boxes j b hb
     have hsw:s.w=cs.length:=(za.len hs).symm
     have hnc:b.c.isCh=false:=by
      cases hcc:b.c with
      | nl=>rw [hcc] at hp; cases q with
       | nil=>cases hp; simp only [SV.w] at k2; omega
       | cons x y=>cases hp
      | cns x y=>rw [hcc] at hp; cases q with
       | nil=>cases hp; simp only [SV.w] at k2; omega
       | cons x y=>cases hp
      | _=>rfl
     obtain ⟨l1,l2,l3⟩:=zw9 (o:=old) hs
     obtain ⟨⟨A,ds,C,rfl,e1,e2,e3⟩,e4⟩:=zj3 (zaq g1 hnc) hp hc l1 (by rw [k2,hsw])
     obtain ⟨w',m1,m2,m3,m4⟩:=zdc (P:=P) T h0 hv hlen (fun v hv=>za.one hs v hv) g2 (o:=c) (by rw [← k1,← e1]; simp; omega) (.inl rfl)
     refine ⟨w',_,m1,h,R.updB hb m4 e3 ?_ ⟨fun i hi=>?_,fun i hi=>?_⟩⟩
     ·rw [m2]
      congr 2
      have:(A++ds++C).toArray.toList=A++ds++C:=by simp
      rw [this,← k1,← e1]
      have e5:(A++ds++C).take A.length=A:=by rw [List.append_assoc,List.take_left' rfl]
      have e6:(A++ds++C).drop (A.length+cs.length)=C:=List.drop_left' (by rw [List.length_append,e2])
      rw [e5,e6]
     ·rcases (e4 i).1 hi with hi | hi
      ·exact (R.liveB j b hb).rows i hi
      ·exact hl.rows i (by rw [← l2]; exact hi)
     ·rcases (e4 i).2 hi with hi | hi
      ·exact (R.liveB j b hb).boxes i hi
      ·exact hl.boxes i (by rw [← l3]; exact hi)
   ·cases h
  ·cases h
 ·cases h

theorem zwa {w:World} {ok:Nat→Prop} {t:Ty} {x:t.T} {v:Value} {cs:List Value} (h:Rd w ok t x cs) (hw:z1f t v cs):v.cells=cs.toArray:=by
 rcases hw with ⟨_,rfl⟩ | ⟨_,rfl⟩
 ·rfl
 ·exact zmi (Rd.one h v (by simp))

theorem zwb {R0:Type} {res:R0} (R:Rep E w0 ok O σ tm w M) (hat:a.tmps=tm) (T:zb P E.ti=true) {t:TypeId} {x y:Operand} {k:St→Option R0} (h:zcg E σ t x y k=some res) :
  ∃ w' σ' M' w2 ok2 O2,Chg E w0 ok O w2 ok2 O2∧(Instr.storeAt t (a.eval x) (a.eval y)).run P w=.ok () w'∧k σ'=some res∧Rep E w2 ok2 O2 σ' tm w' M':=by
 unfold zcg at h
 split at h
 ·rename_i j q c hx
  obtain ⟨⟨cx,hcx,hwx⟩,hlx⟩:=zz R hat hx
  simp only [za] at hcx
  subst hcx
  have hvx:a.eval x=.pointer (some ⟨M.blk j,c,none⟩):=by
   rcases hwx with ⟨h5,_⟩ | ⟨_,h5⟩
   ·cases h5
   ·simp only [List.cons.injEq,and_true] at h5; exact h5.symm
  rw [hvx]
  split at h
  ·split at h
   ·rename_i e e' u b ht
    have hu:=(z6h T ht).1
    have htyof:E.tyOf t=.sl e' u:=by simp [Env.tyOf,ht]
    cases hpin:Nat.blt (3000000+32*j) PIN <;> rw [hpin] at h
    ·cases h
    simp only [cond_true] at h
    have R':=R.addOwn (3000000+32*j) (Nat.le_of_ble_eq_true hpin) (e:=e) (t:=u) (none,0,[]) ⟨⟨rfl,rfl⟩,by simp⟩ ⟨fun b hb=>(nomatch hb),by simp⟩ (by simp only [z6]; exact Free.nil)
    have hrow:∃ r,lk (σ.addRow (3000000+32*j) ⟨e,u,[],false⟩).rows (3000000+32*j)=some r:=⟨_,z5b _ _ _⟩
    obtain ⟨w',σ',m1,m2,m3⟩:=zn8 (P:=P) R' T h (t:=t) (v:=.slice none 0 0) (cs:=[.slice none 0 0]) ⟨e,u,(none,0,[]),(congrArg (fun z:Loc=>zr z.1 z.2 []) (z1n M.loc (3000000+32*j) ⟨.sl e u,(none,0,[])⟩)).trans rfl,rfl⟩
     ⟨fun i hi=>by simp [SV.roots] at hi; subst hi; exact hrow,by simp [SV.boxes]⟩ rfl (by rw [htyof]; rfl) (by rw [htyof]; simp [Ty.sz])
    exact ⟨w',σ',_,_,_,_,.refl,m1,m2,m3⟩
   ·cases h
  ·split at h
   ·rename_i s hs
    cases hk:s.okW (E.tyOf t) <;> rw [hk] at h
    ·cases h
    ·simp only [cond_true] at h
     obtain ⟨h1,h2⟩:=zz R hat hs
     obtain ⟨cs,h3,h4,h5,h6⟩:=zf6 h1 hk
     obtain ⟨w',σ',m1,m2,m3⟩:=zn8 (P:=P) R T h (t:=t) h3 h2 h5 h6 (zcz hk).2.2.1
     exact ⟨w',σ',M,_,_,_,.refl,m1,m2,m3⟩
   ·cases h
 ·rename_i j q n f c hx
  obtain ⟨⟨cx,⟨e,t',lq,g,hq,hg,hlt,hcx⟩,hwx⟩,hlx⟩:=zz R hat hx
  subst hcx
  have hvx:a.eval x=.pointer (some ⟨g,n*t'.sz+c,none⟩):=by
   rcases hwx with ⟨h5,_⟩ | ⟨_,h5⟩
   ·cases h5
   ·simp only [List.cons.injEq,and_true] at h5; exact h5.symm
  rw [hvx]
  split at h
  ·rename_i s hs
   cases hfl:(E.tyOf t).flat <;> rw [hfl] at h
   ·simp only [cond_false] at h
    obtain ⟨h1,h2⟩:=zz R hat hs
    rcases z34 h1 with rfl | ⟨c,vs,rfl,_,_⟩ | ⟨cs,h4,h5⟩
    ·cases hrd:zee σ j q n <;> rw [hrd] at h
     ·cases h
     ·cases hz:(E.rdm&&!Nat.beq (E.tyOf t).sz 0) <;> rw [hz] at h <;> cases h
    ·cases hrd:zee σ j q n <;> rw [hrd] at h
     ·cases h
     ·cases hz:(E.rdm&&!Nat.beq (E.tyOf t).sz 0) <;> rw [hz] at h <;> cases h
    ·cases hrd:zee σ j q n <;> rw [hrd] at h
     rotate_left
     ·simp only [cond_true] at h
      cases hz:(E.rdm&&!Nat.beq (E.tyOf t).sz 0) <;> rw [hz] at h
      ·cases h
      ·simp only [cond_true] at h
       simp only [Bool.and_eq_true,Bool.not_eq_true'] at hz
       have z2:=z48 hz.2
       obtain ⟨σ1,u,x1,ok1,O1,B,g1,g2,g3,g4⟩:=zb0 depth w0 ok O σ tm w M s cs _ R h4 h
       cases hk:Nat.beq u.sz (E.tyOf t).sz <;> rw [hk] at g1
       ·cases g1
       ·have z1:=Nat.eq_of_beq_eq_true hk
        simp only [cond_true] at g1
        obtain ⟨R2,p1,p2⟩:=g4.killIn j (ixs q)
        have g1:zad (σ1.killIn j (ixs q)) j (q++[.ix n]) f c (.rd u) (erase (.rd u) (rdL g2)) k=some res:=g1
        obtain ⟨σ',M',cur,fz,k1,k2,k3,k4,k5⟩:=zj2 R2 hq hg (u:=.rd u) (y:=rdL g2) g2 trivial Free.nil (fun s v hv p hp=>.inr (p1 s v hv p hp)) (fun i b hb p hp=>.inr (p2 i b hb p hp)) g1
        have hl:cs.length=u.sz:=Rd.len g2
        obtain ⟨w',m1,m2,m3,m4⟩:=zdc (P:=P) T z2 (ziv h4 h5) (by rw [hl,z1]) (fun v hv=>za.one h4 v hv) k2 (o:=n*t'.sz+c) (by rw [hl]; exact k3) (by rw [hl]; exact k4)
        exact ⟨w',σ',M',_,_,_,.inr ⟨hz.1,B⟩,m1,k1,k5 w' (by rw [show z8 (.rd u) (rdL g2)=cs from rfl,m2,hl]; rfl) m3 m4⟩
     simp only [cond_false] at h
     obtain ⟨σ1,u,l,g1,g2,g3,g4,g5,g6⟩:=z5d depth w0 ok O σ tm w M s cs _ R h4 h
     cases hk:(Nat.beq u.sz (E.tyOf t).sz&&!Nat.beq u.sz 0) <;> rw [hk] at g1
     ·cases g1
     ·obtain ⟨z1,z2⟩:=z88 hk
      simp only [cond_true] at g1
      obtain ⟨R2,p1,p2⟩:=g6.rep.killIn j (ixs q)
      obtain ⟨σ',M',cur,fz,k1,k2,k3,k4,k5⟩:=zj2 R2 hq hg g2 g3 (g6.free.sub (Sub.killIn σ1 j (ixs q))) (fun s v hv p hp=>.inr (p1 s v hv p hp)) (fun i b hb p hp=>.inr (p2 i b hb p hp)) g1
      have hl:cs.length=u.sz:=by rw [← g4,z1s]
      obtain ⟨w',m1,m2,m3,m4⟩:=zdc (P:=P) T z2 (ziv h4 h5) (by rw [hl,z1]) (fun v hv=>za.one h4 v hv) k2 (o:=n*t'.sz+c) (by rw [hl]; exact k3) (by rw [hl]; exact k4)
      exact ⟨w',σ',M',_,_,_,.refl,m1,k1,k5 w' (by rw [g4,m2,hl]) m3 m4⟩
   ·simp only [cond_true] at h
    rw [zy] at h
    obtain ⟨⟨u,yv⟩,hv,h⟩:=Option.bind_eq_some_iff.1 h
    obtain ⟨cs,h2,h3⟩:=z65 R hat hs hv
    cases hk:(u.flat&&Nat.beq u.sz (E.tyOf t).sz) <;> simp only [hk,cond_true,cond_false] at h
    ·cases h
    ·simp only [Bool.and_eq_true] at hk
     have z1:=Nat.eq_of_beq_eq_true hk.2
     have hfu:=hk.1
     obtain ⟨l,rfl,l2,l3,l4⟩:=z9a hfu h2
     obtain ⟨σ',M',cur,fz,k1,k2,k3,k4,k5⟩:=zj2 R hq hg (l4 _ w).1 (l4 (fun _ _ _=>False) w).2 (by rw [l3]; exact Free.nil) (fun s v hv p hp=>.inl hfu) (fun i b hb p hp=>.inl hfu) h
     have hl:cs.length=u.sz:=Rd.len h2
     obtain ⟨w',m1,m2,m3,m4⟩:=zdc (P:=P) T (zcx hfl) (zwa h2 h3) (by rw [hl,z1]) (fun v hv=>Rd.one h2 v hv) k2 (o:=n*t'.sz+c) (by rw [hl]; exact k3) (by rw [hl]; exact k4)
     exact ⟨w',σ',M',_,_,_,.refl,m1,k1,k5 w' (by rw [l2,m2,hl]) m3 m4⟩
  ·cases h
 ·cases h
end

section
variable {P : Program} {E : Env} {w0 : World} {ok O : Nat → Prop} {σ σ' : St} {tm : Array Value} {w w' : World} {M : Map} {a : Act}

theorem z9c {g o:Nat} {t:TypeId} {vs:List Value} {cur:Array Value} {w:World} (hg:w.heap[g]?=some (.cells cur t (0,0))) (hl:o+vs.length≤cur.size) (h1:∀ v∈vs,v.oneCell'=true) :
  (w.setCells g o vs).heap[g]?=some (.cells (cur.toList.take o++vs++cur.toList.drop (o+vs.length)).toArray t (0,0))∧(∀ k,k≠g→(w.setCells g o vs).heap[k]?=w.heap[k]?)∧Kept (fun k=>k=g) w (w.setCells g o vs):=by
 have h2:=run_storeCells_cells (P:=default) g o vs 0 w (fun j hj=>by
  have:o+0+j<cur.size:=by omega
  rw [Nat.add_zero] at this
  simp [World.cell?,hg,this]) (fun j hj=>by simp [World.frozen?,hg]) h1
 obtain ⟨w',e1,e2,e3,e4⟩:=zfd default g t (0,0) vs o 0 cur w hg (by omega) (.inl rfl) h1
 rw [h2] at e1
 cases e1
 exact ⟨by simpa using e2,by simpa using e3,by simpa using e4⟩

theorem zn9 {F:Frz} {t tx ty e:TypeId} {u:Ty} {i:TypeInfo} {z:Value} (ht:P.underlying t=some (.slice e)) (hi:P.info? e=some i) (hz:i.zero=some z) (hsz:i.size=u.sz) (hzs:z.cells.size=u.sz) (hpos:0<u.sz)
  {l:L (.sl e u)} (hh:holds F w (.sl e u) l) (hp:plain w (.sl e u) l) {ls:List (L u)} {x:Value} (hs:Src P u.sz tx x ls.length (ls.flatMap (z8 u)) w) (hls:∀ y∈ls,holds F w u y∧plain w u y)
  (hfree:∀ g,l.1=some g→g∉l.2.2.flatMap (z6 u)∧g∉ls.flatMap (z6 u)) (hby:(l.2.2.length+ls.length)*i.bytes≤LIM) (hb0:0<i.bytes) :
  ∃ (w':World) (l':L (.sl e u)),(Builtin.append_ #[t,tx] ty #[.slice (l.1.map fun g=>⟨g,0,none⟩) l.2.2.length l.2.1,x]).run P w=.ok (.slice (l'.1.map fun g=>⟨g,0,none⟩) l'.2.2.length l'.2.1) w' ∧
   l'.2.2=l.2.2++ls∧holds F w' (.sl e u) l'∧plain w' (.sl e u) l'∧(l'.1=l.1∨l'.1=some w.heap.size)∧Kept (fun k=>l.1=some k) w w':=by
 obtain ⟨h1,h2⟩:=hh
 obtain ⟨p1,p2⟩:=hp
 have hLIM:LIM=140737488355328:=rfl
 rw [hLIM] at hby
 have hn63:l.2.2.length+ls.length≤140737488355328:=Nat.le_trans (Nat.le_mul_of_pos_right _ hb0) hby
 rw [← hsz] at hs
 have grow:∀ (base:Option Addr) (cap:Nat) (hold:(Builtin.firstCells i.size l.2.2.length (.slice base l.2.2.length cap)).run P w.drew=.ok (l.2.2.flatMap (z8 u)).toArray w.drew),cap<l.2.2.length+ls.length →
   ∃ (w':World) (l':L (.sl e u)),(Builtin.append_ #[t,tx] ty #[.slice base l.2.2.length cap,x]).run P w=.ok (.slice (l'.1.map fun g=>⟨g,0,none⟩) l'.2.2.length l'.2.1) w' ∧
   l'.2.2=l.2.2++ls∧holds F w' (.sl e u) l'∧plain w' (.sl e u) l'∧(l'.1=l.1∨l'.1=some w.heap.size)∧Kept (fun k=>l.1=some k) w w':=by
  intro base cap hold hcap
  have hr:=run_append_grow_src (P:=P) w t tx ty e i z ht hi hz base l.2.2.length cap _ hold x ls.length _ hs hcap (by omega) (growslice_fits (by omega) hby)
  have hge:=grownCap_ge w (l.2.2.length+ls.length) cap e
  have hcm:grownCap w (l.2.2.length+ls.length) cap e≤maxLen:=grownCap_le_maxLen w (l.2.2.length+ls.length) cap e (by simp only [maxLen]; omega)
  have hold_heap:∀ k,k<w.heap.size→∀ o,(w.drew.alloc o).heap[k]?=w.heap[k]?:=fun k hk o=>Below.heap_alloc w.drew o k (by simpa using hk)
  have hflat:(l.2.2.flatMap (z8 u)++ls.flatMap (z8 u)).length=(l.2.2.length+ls.length)*u.sz:=by rw [List.length_append,z1l,z1l,Nat.add_mul]
  refine ⟨w.drew.alloc (.cells ((l.2.2.flatMap (z8 u)++ls.flatMap (z8 u)).toArray++Builtin.zeroCells z.cells (grownCap w (l.2.2.length+ls.length) cap e-(l.2.2.length+ls.length))) e),(some w.heap.size,grownCap w (l.2.2.length+ls.length) cap e,l.2.2++ls),?_,rfl,⟨⟨_,(0,0),z98 w.drew _,by simpa using hge,hcm,?_,?_,.inl rfl⟩,fun y hy=>?_⟩,⟨fun b hb=>?_,fun y hy=>?_⟩,.inr rfl,⟨rfl,rfl,rfl,by simp,fun k hk _=>hold_heap k hk _⟩⟩
  ·rw [hr]; simp
  ·simp only [Array.size_append,List.size_toArray,size_zeroCells,hzs,hflat]
   rw [← Nat.add_mul]
   exact Nat.mul_le_mul_right _ (by omega)
  ·simp only [Array.toList_append,List.length_append]
   rw [List.flatMap_append,List.take_left' hflat]
  ·rcases List.mem_append.1 hy with hy | hy
   ·exact z1t (fun k hk=>hold_heap k (z1d (h2 y hy) k hk) _) (h2 y hy)
   ·exact z1t (fun k hk=>hold_heap k (z1d (hls y hy).1 k hk) _) (hls y hy).1
  ·cases hb
   refine ⟨_,e,z98 w.drew _,?_⟩
   simp only [Array.size_append,List.size_toArray,size_zeroCells,hzs,hflat]
   rw [← Nat.add_mul]
   congr 1
   omega
  ·rcases List.mem_append.1 hy with hy | hy
   ·exact z1u (fun k hk=>hold_heap k (z1d (h2 y hy) k hk) _) (p2 y hy)
   ·exact z1u (fun k hk=>hold_heap k (z1d (hls y hy).1 k hk) _) (hls y hy).2
 cases hx:l.1 with
 | none =>
  rw [hx] at h1
  obtain ⟨h3,h4⟩:=h1
  rcases Nat.eq_zero_or_pos ls.length with hn | hn
  ·have hl0:ls=[]:=List.eq_nil_of_length_eq_zero hn
   subst hl0
   have hr:=run_append_nothing (P:=P) w t tx ty e i ht hi none l.2.2.length l.2.1 (by rw [h3,h4]; exact Nat.le_refl _) x hs
   refine ⟨w,l,by rw [hx]; exact hr,by simp,⟨by rw [hx]; exact ⟨h3,h4⟩,h2⟩,⟨p1,p2⟩,.inl hx,Kept.refl _ _⟩
  ·have:=grow none l.2.1 (by rw [h3]; exact run_firstCells_none w.drew _ _ _ _) (by rw [h3,h4]; simpa using hn)
   rw [hx] at this
   exact this
 | some g =>
  rw [hx] at h1
  obtain ⟨cur,fz,hc,hl,hm,hcs,htk,hfz⟩:=h1
  obtain ⟨cur',e',k1,k2⟩:=p1 g hx
  rw [hc] at k1
  cases k1
  obtain ⟨f1,f2⟩:=hfree g hx
  by_cases hroom:l.2.2.length+ls.length≤l.2.1
  ·have hfit:l.2.2.length*u.sz+(ls.flatMap (z8 u)).length≤cur.size:=by
    rw [z1l,k2,← Nat.add_mul]
    exact Nat.mul_le_mul_right _ hroom
   have hr:=run_append_room_src (P:=P) w t tx ty e i ht hi g 0 l.2.2.length l.2.1 x ls.length _ hs hroom (fun j hj=>by
    have:l.2.2.length*i.size+j<cur.size:=by rw [hsz]; omega
    simp [World.cell?,hc,this]) (fun j hj=>by simp [World.frozen?,hc])
   obtain ⟨c1,c2,c3⟩:=z9c (o:=0+l.2.2.length*i.size) hc (by rw [hsz]; omega) hs.one
   rw [hsz,Nat.zero_add] at c1
   have away:∀ y∈l.2.2++ls,∀ k∈z6 u y,k≠g:=fun y hy k hk e=>by
    subst e
    rcases List.mem_append.1 hy with hy | hy
    ·exact f1 (List.mem_flatMap.2 ⟨y,hy,hk⟩)
    ·exact f2 (List.mem_flatMap.2 ⟨y,hy,hk⟩)
   have hflat:(l.2.2.flatMap (z8 u)++ls.flatMap (z8 u)).length=(l.2.2.length+ls.length)*u.sz:=by rw [List.length_append,z1l,z1l,Nat.add_mul]
   refine ⟨_,(some g,l.2.1,l.2.2++ls),?_,rfl,⟨⟨_,(0,0),by rw [hsz,Nat.zero_add]; exact c1,by simpa using hroom,hm,?_,?_,.inl rfl⟩,fun y hy=>?_⟩,⟨fun b hb=>?_,fun y hy=>?_⟩,.inl rfl,⟨c3.os,c3.tape,c3.output,c3.size,fun k hk1 hk2=>c3.block k hk1 (fun e=>hk2 (by rw [e]))⟩⟩
   ·simp only [Option.map_some]
    rw [hr]
    simp
   ·simp only [List.size_toArray,List.length_append,List.length_take,List.length_drop,Array.length_toList]
    omega
   ·simp only [List.length_append]
    rw [htk,List.flatMap_append,List.take_left' hflat]
   ·have hy2:holds F w u y:=(List.mem_append.1 hy).elim (h2 y) (fun h=>(hls y h).1)
    exact z1t (fun k hk=>c2 k (away y hy k hk)) hy2
   ·cases hb
    refine ⟨_,e,by rw [hsz,Nat.zero_add]; exact c1,?_⟩
    simp only [List.size_toArray,List.length_append,List.length_take,List.length_drop,Array.length_toList]
    rw [← k2]
    omega
   ·have hy2:plain w u y:=(List.mem_append.1 hy).elim (p2 y) (fun h=>(hls y h).2)
    exact z1u (fun k hk=>c2 k (away y hy k hk)) hy2
  ·have hcells:∀ j v,(l.2.2.flatMap (z8 u))[j]?=some v→w.drew.cell? ((⟨g,0,none⟩:Addr).add j)=some v:=by
    intro j v hv
    have hj:j<l.2.2.length*u.sz:=by have:=(List.getElem?_eq_some_iff.1 hv).1; rwa [z1l] at this
    rw [z2v,Nat.zero_add,cell_of_row w.drew g j cur e (0,0) hc]
    rw [← htk,List.getElem?_take_of_lt hj] at hv
    rw [← Array.getElem?_toList]; exact hv
   have:=grow (some ⟨g,0,none⟩) l.2.1 (run_firstCells_some w.drew i.size l.2.2.length ⟨g,0,none⟩ l.2.2.length l.2.1 _ (by rw [z1l,hsz]) hcells) (by omega)
   rw [hx] at this
   exact this

theorem Rep.freeWorld (R:Rep E w0 ok O σ tm w M) {bs:List Nat} (hf:Free w0 ok O σ M bs) (hk:Kept (fun k=>k∈bs) w w'):Rep E w0 ok O σ tm w' M where
 slots:=R.slots
 rows:=fun i r hr=>by
  obtain ⟨l,h1,h2,h3,h4,h5⟩:=R.rows i r hr
  have hmv:∀ k∈z6 (.sl r.e r.t) l,w'.heap[k]?=w.heap[k]?:=fun k hk2=>hk.block k (z1d h3 k hk2) (fun e=>hf.rows i ⟨r,hr⟩ k e (by rw [h1]; exact hk2))
  exact ⟨l,h1,h2,z1t hmv h3,h4,fun hz=>z1u hmv (h5 hz)⟩
 boxes:=fun i b hb=>by
  obtain ⟨cs,h1,h2,h3⟩:=R.boxes i b hb
  exact ⟨cs,h1,(hk.block _ (Array.getElem?_eq_some_iff.1 h2).1 (hf.bx i ⟨b,hb⟩)).trans h2,h3⟩
 rr:=R.rr
 bb:=R.bb
 rb:=R.rb
 ownR:=R.ownR
 ownB:=R.ownB
 okB:=R.okB
 liveS:=R.liveS
 liveB:=R.liveB
 kept:=R.kept.trans hk fun k hk0 hk1=>by
  rcases (hf.own k hk1).2 with h | h
  ·exact h
  ·omega
 pin:=R.pin
 pinB:=R.pinB

structure Srcd (P:Program) (E:Env) (w0:World) (ok O:Nat→Prop) (σ σ':St) (tm:Array Value) (w:World) (M:Map) (tx:TypeId) (u:Ty) (v:Value) (ls:List (L u)):Prop where
 ea:Eaten E w0 ok O σ σ' tm w M (ls.flatMap (z6 u))
 src:Src P u.sz tx v ls.length (ls.flatMap (z8 u)) w
 ho:∀ y∈ls,holds (Rd w0 ok) w u y∧plain w u y

theorem z9d {t:Ty} (l:List (L t)):∀ v∈l.flatMap (z8 t),v.oneCell'=true:=by
 have key:∀ (t:Ty) (y:L t),∀ v∈z8 t y,v.oneCell'=true:=by
  intro t
  induction t with
  | int k=>intro y v hv; simp [z8] at hv; subst hv; rfl
  | bool=>intro y v hv; simp [z8] at hv; subst hv; rfl
  | str=>intro y v hv; simp [z8] at hv; subst hv; rfl
  | sl e t _=>intro y v hv; simp [z8] at hv; subst hv; rfl
  | st t ih=>intro y v hv; exact ih y v hv
  | pr a b iha ihb =>
   intro y v hv
   simp only [z8,List.mem_append] at hv
   exact hv.elim (iha y.1 v) (ihb y.2 v)
  | ptr t _=>intro y; exact y.elim
  | un=>intro y v hv; simp [z8] at hv
  | fn g c _=>intro y; exact y.elim
  | fs ids=>intro y; exact y.elim
  | rd t _=>intro y v hv; exact y.2.2 v hv
 intro v hv
 obtain ⟨y,_,hy⟩:=List.mem_flatMap.1 hv
 exact key t y v hy

theorem zna {t:Ty} (hf:t.flat=true) {w:World} {okk:Nat→Prop} {ad:Addr}:∀ (xs:List t.T) (k:Nat),(∀ i x,xs[i]?=some x→∃ ds,Rd w okk t x ds∧z2a w (ad.add ((k+i)*t.sz)) ds) →
  ∃ ls:List (L t),ls.map (erase t)=xs∧ls.flatMap (z6 t)=[]∧(∀ y∈ls,∀ (F:Frz) w,holds F w t y∧plain w t y)∧∀ j v,(ls.flatMap (z8 t))[j]?=some v→w.cell? (ad.add (k*t.sz+j))=some v
 | [],k,h=>⟨[],rfl,rfl,by simp,by simp⟩
 | x::xs,k,h=>by
  obtain ⟨ds,h1,h2⟩:=h 0 x rfl
  obtain ⟨l,e1,e2,e3,e4⟩:=z9a hf h1
  obtain ⟨ls,g1,g2,g3,g4⟩:=zna hf xs (k+1) (fun i y hy=>by
   have:=h (i+1) y hy
   rwa [show k+(i+1)=k+1+i by omega] at this)
  refine ⟨l::ls,by simp [e1,g1],by simp [e3,g2],fun y hy=>?_,fun j v hv=>?_⟩
  ·rcases List.mem_cons.1 hy with rfl | hy
   ·exact e4
   ·exact g3 y hy
  ·rw [List.flatMap_cons] at hv
   by_cases hj:j<t.sz
   ·rw [List.getElem?_append_left (by rw [z1s]; exact hj),e2] at hv
    have:=h2 j v hv
    rw [za9] at this
    exact this
   ·rw [List.getElem?_append_right (by rw [z1s]; omega),z1s] at hv
    have:=g4 _ v hv
    rw [show (k+1)*t.sz+(j-t.sz)=k*t.sz+j by rw [Nat.add_mul]; omega] at this
    exact this

theorem zfg (T:zb P E.ti=true) {t:TypeId} (h:E.isSl t=true):∃ e,P.underlying t=some (.slice e):=by
 unfold Env.isSl at h
 split at h
 ·rename_i ht; exact ⟨_,(z6h T ht).1⟩
 ·cases h
theorem zwc (T:zb P E.ti=true) {t:TypeId} (h:E.isStr t=true):P.underlying t=some .string:=by
 unfold Env.isStr at h
 split at h
 ·rename_i ht; exact (z96 T ht).1
 ·cases h

theorem zwd (y:List UInt8):y.map (fun b=>Value.int .u8 b.toNat)=((y.map fun b=>(b.toNat:Int)):List (L (.int .u8))).flatMap (z8 (.int .u8)):=by
 induction y with
 | nil=>rfl
 | cons b y ih=>rw [List.map_cons,List.map_cons,List.flatMap_cons,← ih]; rfl
theorem zfh {R0:Type} {res:R0} (R:Rep E w0 ok O σ tm w M) (hat:a.tmps=tm) (T:zb P E.ti=true) {tx e:TypeId} {u:Ty} {b:Operand} {c:St→List u.T→Option R0} (h:z6y E σ tx e u b c=some res) :
  ∃ σ' ls,c σ' (ls.map (erase u))=some res∧Srcd P E w0 ok O σ σ' tm w M tx u (a.eval b) ls:=by
 unfold z6y at h
 split at h
 ·rename_i s hs
  cases hf:u.flat <;> rw [hf] at h
  ·simp only [cond_false] at h
   obtain ⟨h1,h2⟩:=zz R hat hs
   rcases z34 h1 with rfl | ⟨c,vs,rfl,_,_⟩ | ⟨cs,h4,h5⟩
   ·cases h
   ·cases h
   ·obtain ⟨σ1,v,l,g1,g2,g3,g4,g5,g6⟩:=z5d depth w0 ok O σ tm w M s cs _ R h4 h
    cases hk:E.isSl tx <;> rw [hk] at g1
    ·cases g1
    ·simp only [cond_true] at g1
     unfold zf at g1
     split at g1
     ·rename_i he
      subst he
      obtain ⟨e',hu⟩:=zfg T hk
      have hst:s.isSt=false:=g5
      have hv:a.eval b=.slice (l.1.map fun g=>⟨g,0,none⟩) l.2.2.length l.2.1:=by
       rcases h5 with ⟨h6,_⟩ | ⟨_,h6⟩
       ·rw [hst] at h6; cases h6
       ·rw [← g4] at h6
        simp only [z8,List.cons.injEq,and_true] at h6; exact h6.symm
      have hsubl:(l.2.2.flatMap (z6 u)).Sublist (z6 (.sl e u) l):=by simp only [z6]; exact List.sublist_append_right _ _
      refine ⟨σ1,l.2.2,g1,⟨g6.rep,g6.free.sublist hsubl,fun k hk=>g6.src k (hsubl.subset hk),g6.sub⟩,?_,fun y hy=>⟨g2.2 y hy,g3.2 y hy⟩⟩
      rw [hv]
      have h8:=g2.1
      cases hx:l.1 with
      | none =>
       rw [hx] at h8
       rw [h8.1]
       exact Src.ofNil w hu _
      | some g =>
       rw [hx] at h8
       obtain ⟨cur,fz,hc,hl,hm,hcs,htk,hfz⟩:=h8
       refine Src.ofSlice w hu ⟨g,0,none⟩ l.2.2.length l.2.1 _ (z1l u _) (fun j v hv=>?_) (z9d _)
       have hj:j<l.2.2.length*u.sz:=by have:=(List.getElem?_eq_some_iff.1 hv).1; rwa [z1l] at this
       rw [z2v,Nat.zero_add,cell_of_row w g j cur e fz hc]
       rw [← htk,List.getElem?_take_of_lt hj] at hv
       rw [← Array.getElem?_toList]; exact hv
     ·cases g1
  ·simp only [cond_true] at h
   rw [zy] at h
   obtain ⟨⟨v,yv⟩,hv,h⟩:=Option.bind_eq_some_iff.1 h
   obtain ⟨cs,h2,h3⟩:=z65 R hat hs hv
   simp only [] at h
   have eaten0:Eaten E w0 ok O σ σ tm w M ([]:List Nat):=⟨R,Free.nil,z4b.nil,Sub.refl σ⟩
   split at h
   ·rename_i y
    cases hk:E.isStr tx <;> rw [hk] at h
    ·cases h
    ·simp only [cond_true] at h
     have hu:=zwc T hk
     have he:=z87 h2 h3
     unfold zf at h
     split at h
     ·rename_i hty
      have hu8:u=.int .u8:=by injection hty with _ h; exact h.symm
      subst hu8
      refine ⟨σ,y.map fun b=>(b.toNat:Int),?_,?_,?_,fun z hz=>⟨trivial,trivial⟩⟩
      ·have:(y.map fun b=>(b.toNat:Int)).map (erase (.int .u8))=y.map fun b=>(b.toNat:Int):=by
        rw [List.map_map]; rfl
       rw [this]; exact h
      ·have:((y.map fun b=>(b.toNat:Int)):List (L (.int .u8))).flatMap (z6 (.int .u8))=[]:=by
        rw [List.flatMap_eq_nil_iff]; intro z _; rfl
       rw [this]; exact eaten0
      ·rw [he]
       have hsrc:=Src.ofString (P:=P) w hu ⟨y.toArray⟩
       have e1:(⟨y.toArray⟩:ByteArray).size=y.length:=rfl
       have e2:byteCells ⟨y.toArray⟩=((y.map fun b=>(b.toNat:Int)):List (L (.int .u8))).flatMap (z8 (.int .u8)):=by
        exact zwd y
       rw [e1,e2] at hsrc
       rw [List.length_map]
       exact hsrc
     ·cases h
   ·rename_i e' wty y
    cases hk:E.isSl tx <;> rw [hk] at h
    ·cases h
    ·simp only [cond_true] at h
     obtain ⟨e2,hu⟩:=zfg T hk
     unfold zf at h
     split at h
     ·rename_i hty
      have hu8:wty=u:=by injection hty
      subst hu8
      obtain ⟨A,cc,hA,hle,hx⟩:=h2
      have hc:=zaw h3 rfl
      rw [hA] at hc
      simp only [List.cons.injEq,and_true] at hc
      by_cases hne:y=[]
      ·subst hne
       refine ⟨σ,[],h,eaten0,?_,by simp⟩
       rw [← hc]
       cases A with
       | none=>exact Src.ofNil w hu _
       | some ad=>exact Src.ofSlice w hu ad 0 cc [] (by simp) (by simp) (by simp)
      ·obtain ⟨ad,rfl,_,hcell⟩:=hx hne
       obtain ⟨ls,g1,g2,g3,g4⟩:=zna (w:=w) hf y 0 (fun i x hi=>by rw [Nat.zero_add]; exact hcell i x hi)
       refine ⟨σ,ls,by rw [g1]; exact h,by rw [g2]; exact eaten0,?_,fun z hz=>g3 z hz _ w⟩
       have hlen:ls.length=List.length y:=by rw [← g1,List.length_map]
       rw [← hc,← hlen]
       exact Src.ofSlice w hu ad ls.length cc _ (z1l _ _) (fun j v hv=>by have:=g4 j v hv; simpa using this) (z9d _)
     ·cases h
   ·cases h
 ·cases h

theorem znb {t:Ty} {w:World} {ad:Addr}:∀ (ys:List (L t)) (k:Nat),(∀ i y,ys[i]?=some y→z2a w (ad.add ((k+i)*t.sz)) (z8 t y))→∀ j v,(ys.flatMap (z8 t))[j]?=some v→w.cell? (ad.add (k*t.sz+j))=some v
 | [],k,h,j,v,hv=>by simp at hv
 | y::ys,k,h,j,v,hv=>by
  rw [List.flatMap_cons] at hv
  by_cases hj:j<t.sz
  ·rw [List.getElem?_append_left (by rw [z1s]; exact hj)] at hv
   have:=h 0 y rfl j v hv
   rw [za9] at this
   exact this
  ·rw [List.getElem?_append_right (by rw [z1s]; omega),z1s] at hv
   have:=znb ys (k+1) (fun i y hy=>by
    have:=h (i+1) y hy
    rwa [show k+(i+1)=k+1+i by omega] at this) _ v hv
   rw [show (k+1)*t.sz+(j-t.sz)=k*t.sz+j by rw [Nat.add_mul]; omega] at this
   exact this
theorem znc {t:Ty} {w:World} {okk:Nat→Prop} {ad:Addr}:∀ (xs:List t.T),(∀ i x,xs[i]?=some x→∃ ds,Rd w okk t x ds∧z2a w (ad.add (i*t.sz)) ds) →
  ∃ ls:List (L (.rd t)),ls.map (erase (.rd t))=xs∧(∀ y∈ls,Rd w okk t y.1.1 y.1.2)∧∀ i y,ls[i]?=some y→z2a w (ad.add (i*(Ty.rd t).sz)) (z8 (.rd t) y):=by
 intro xs
 suffices key:∀ (xs:List t.T) (k:Nat),(∀ i x,xs[i]?=some x→∃ ds,Rd w okk t x ds∧z2a w (ad.add ((k+i)*t.sz)) ds) →
   ∃ ls:List (L (.rd t)),ls.map (erase (.rd t))=xs∧(∀ y∈ls,Rd w okk t y.1.1 y.1.2)∧∀ i y,ls[i]?=some y→z2a w (ad.add ((k+i)*(Ty.rd t).sz)) (z8 (.rd t) y) by
  intro h
  obtain ⟨ls,h1,h2,h3⟩:=key xs 0 (fun i x hi=>by rw [Nat.zero_add]; exact h i x hi)
  exact ⟨ls,h1,h2,fun i y hy=>by have:=h3 i y hy; rwa [Nat.zero_add] at this⟩
 intro xs
 induction xs with
 | nil=>intro k _; exact ⟨[],rfl,by simp,by simp⟩
 | cons x xs ih =>
  intro k h
  obtain ⟨ds,h1,h2⟩:=h 0 x rfl
  obtain ⟨ls,g1,g2,g3⟩:=ih (k+1) (fun i y hy=>by
   have:=h (i+1) y hy
   rwa [show k+(i+1)=k+1+i by omega] at this)
  refine ⟨rdL h1::ls,by rw [List.map_cons,g1]; rfl,fun y hy=>?_,fun i y hy=>?_⟩
  ·rcases List.mem_cons.1 hy with rfl | hy
   ·exact h1
   ·exact g2 y hy
  ·cases i with
   | zero=>simp at hy; subst hy; exact h2
   | succ i =>
    simp only [List.getElem?_cons_succ] at hy
    have:=g3 i y hy
    rwa [show k+1+i=k+(i+1) by omega] at this
theorem zwe {t:Ty} (ls:List (L (.rd t))):ls.flatMap (z6 (.rd t))=[]:=List.flatMap_eq_nil_iff.2 fun _ _=>rfl
theorem z9e {P:Program} {u:Ty} {ok1 O1:Nat→Prop} {σ1:St} (R1:Rep E w ok1 O1 σ1 tm w M) {tx:TypeId} {v:Value} {ls:List (L (.rd u))} (hls:∀ y∈ls,Rd w ok1 u y.1.1 y.1.2) (hs:Src P (Ty.rd u).sz tx v ls.length (ls.flatMap (z8 (.rd u))) w):Srcd P E w ok1 O1 σ1 σ1 tm w M tx (.rd u) v ls :=
 ⟨by rw [zwe]; exact ⟨R1,Free.nil,z4b.nil,Sub.refl _⟩,hs,fun y hy=>⟨hls y hy,trivial⟩⟩
theorem zb2 {P:Program} {t:Ty} {tx e:TypeId} (hu:P.underlying tx=some (.slice e)) {A:Option Addr} {n c:Nat} {ls:List (L t)} (hn:ls.length=n) (h:0<n→∃ ad,A=some ad∧∀ i y,ls[i]?=some y→z2a w (ad.add (i*t.sz)) (z8 t y)):Src P t.sz tx (.slice A n c) ls.length (ls.flatMap (z8 t)) w:=by
 subst hn
 cases ls with
 | nil =>
  cases A with
  | none=>exact Src.ofNil w hu _
  | some ad=>exact Src.ofSlice w hu ad 0 c [] (by simp) (by simp) (by simp)
 | cons y ls =>
  obtain ⟨ad,rfl,hc⟩:=h (by simp)
  exact Src.ofSlice w hu ad _ c _ (z1l _ _) (fun j v hv=>by have:=znb _ 0 (fun i y hy=>by rw [Nat.zero_add]; exact hc i y hy) j v hv; simpa using this) (z9d _)
theorem znd {R0:Type} {res:R0} (R:Rep E w0 ok O σ tm w M) (hat:a.tmps=tm) (T:zb P E.ti=true) {tx e:TypeId} {u:Ty} {b:Operand} {c:St→List u.T→Option R0} (h:zef E σ tx e u b c=some res) :
  ∃ (σ':St) (ls:List (L (.rd u))) (ok1 O1:Nat→Prop),E.rdm=true∧Based w0 ok O w ok1 O1∧c σ' (ls.map (erase (.rd u)))=some res∧Srcd P E w ok1 O1 σ' σ' tm w M tx (.rd u) (a.eval b) ls:=by
 unfold zef at h
 split at h
 rotate_left
 ·cases h
 rename_i s hs
 cases hk:(E.isSl tx&&E.rdm) <;> rw [hk] at h
 ·cases h
 simp only [Bool.not_true,cond_false] at h
 simp only [Bool.and_eq_true] at hk
 obtain ⟨et,hu⟩:=zfg T hk.1
 obtain ⟨h1,h2⟩:=zz R hat hs
 have one:∀ {s:SV} {cs:List Value},s.isSt=false→z2h s (a.eval b) cs→cs=[a.eval b]:=fun h hw=>by
  rcases hw with ⟨h6,_⟩ | ⟨_,h6⟩
  ·rw [h] at h6; cases h6
  ·exact h6
 split at h
 ·-- a value
  rename_i e' wt y
  unfold zf at h
  split at h
  rotate_left
  ·cases h
  rename_i hty
  have hu8:wt=u:=by injection hty
  subst hu8
  obtain ⟨cs,h3,h4⟩:=h1
  obtain ⟨B,R1⟩:=R.rebase (Free.nil (σ:=σ) (M:=M)) (by simp)
  have hc:=one rfl h4
  obtain ⟨A,cc,hA,hle,hx⟩:=B.rd h3
  rw [hA] at hc
  simp only [List.cons.injEq,and_true] at hc
  by_cases hne:y=[]
  ·subst hne
   refine ⟨σ,[],_,_,hk.2,B,h,z9e R1 (by simp) ?_⟩
   rw [← hc]
   exact zb2 hu rfl (fun h=>absurd h (Nat.lt_irrefl 0))
  ·obtain ⟨ad,rfl,_,hcell⟩:=hx hne
   obtain ⟨ls,g1,g2,g3⟩:=znc y hcell
   refine ⟨σ,ls,_,_,hk.2,B,by rw [g1]; exact h,z9e R1 g2 ?_⟩
   rw [← hc]
   exact zb2 hu (by rw [← g1,List.length_map]) (fun _=>⟨ad,rfl,g3⟩)
 ·-- a literal
  rename_i i
  split at h
  rotate_left
  ·cases h
  rename_i bx hb
  obtain ⟨cs,h3,h4⟩:=h1
  have hc:=one rfl h4
  simp only [za] at h3
  subst h3
  simp only [List.cons.injEq,and_true] at hc
  obtain ⟨cs',b1,b2,b3⟩:=R.boxes i bx hb
  obtain ⟨σ1,ls,ok1,O1,B,g1,g2,g3,g4,g5,g6⟩:=zj1 (zb0 depth) u (R.dropB i) b1 h
  obtain ⟨k4,k5,k6⟩:=b3 g5
  refine ⟨σ1,ls,ok1,O1,hk.2,B,g1,z9e g6 g2 ?_⟩
  rw [← hc]
  have hl:ls.length=M.bn i:=by rw [g4,k4]
  rw [hl]
  exact hl▸Src.ofSlice w hu ⟨M.blk i,0,none⟩ ls.length (M.bn i) _ (z1l _ _) (fun j v hv=>by rw [g3] at hv; exact zar b2 j v hv) (z9d _)
 ·-- a row
  rename_i i
  split at h
  ·rename_i re wt xs z hr
   unfold zf at h
   split at h
   rotate_left
   ·cases h
   rename_i hty
   have hu8:wt=u:=by injection hty
   subst hu8
   obtain ⟨cs,h3,h4⟩:=h1
   have hc:=one rfl h4
   obtain ⟨B,R1⟩:=R.rebase (Free.nil (σ:=σ) (M:=M)) (by simp)
   obtain ⟨l,m1,m2,m3,m4,m5⟩:=R1.rows i _ hr
   obtain ⟨e3,t3,l3,n1,rfl⟩:=h3
   rw [m1,z2y] at n1
   cases n1
   simp only [z8,List.cons.injEq,and_true] at hc
   refine ⟨σ,l.2.2,_,_,hk.2,B,by rw [show l.2.2.map (erase (.rd wt))=xs from m2]; exact h,z9e R1 m3.2 ?_⟩
   rw [← hc]
   exact zb2 hu rfl (fun hn=>by
    obtain ⟨g,hg⟩:=zd1 m3 hn
    refine ⟨⟨g,0,none⟩,by rw [hg]; rfl,fun i y hy=>?_⟩
    rw [z2v,Nat.zero_add]
    exact zas m3 hg hy)
  ·rename_i re rt xs z hnr hr
   cases z <;> simp only [cond_true,cond_false] at h
   rotate_left
   ·cases h
   unfold zf at h
   split at h
   rotate_left
   ·cases h
   rename_i hty
   have hu8:rt.strip=u:=by injection hty
   subst hu8
   obtain ⟨cs,h3,h4⟩:=h1
   have hc:=one rfl h4
   have h':z2q E (0+1) σ (.ref i []) (fun σ t x=>some (σ,SVal.mk t x))=some (σ.drop i,⟨.sl re rt,xs⟩):=by simp only [z2q,hr,cond_false]
   obtain ⟨σ1,t,l,g1,g2,g3,g4,g5,g6⟩:=z5d (0+1) w0 ok O σ tm w M _ cs _ R h3 h'
   have g1:=Option.some.inj g1
   injection g1 with e1 e2
   subst e1
   injection e2 with e3 e4
   subst e3
   have e4:=eq_of_heq e4
   obtain ⟨B,R1⟩:=g6.rep.rebase g6.free (fun k hk=>z1d g2 k hk)
   have hrd:=z6n (z6f (F:=Rd w0 ok) (fun t x cs h=>B.rd h) (fun k hk=>.inr hk) g2)
   rw [g4,e4,zmz] at hrd
   obtain ⟨A,cc,hA,hle,hx⟩:=hrd
   rw [hA] at hc
   simp only [List.cons.injEq,and_true] at hc
   by_cases hne:xs.map (z5x rt)=[]
   ·refine ⟨σ.drop i,[],_,_,hk.2,B,by rw [hne] at h; exact h,z9e R1 (by simp) ?_⟩
    rw [← hc,hne]
    exact zb2 hu rfl (fun h=>absurd h (Nat.lt_irrefl 0))
   ·obtain ⟨ad,rfl,_,hcell⟩:=hx hne
    obtain ⟨ls,q1,q2,q3⟩:=znc (xs.map (z5x rt)) hcell
    refine ⟨σ.drop i,ls,_,_,hk.2,B,by rw [q1]; exact h,z9e R1 q2 ?_⟩
    rw [← hc]
    exact zb2 hu (by rw [← q1,List.length_map]) (fun _=>⟨ad,rfl,q3⟩)
  ·cases h
 ·-- a view
  rename_i i lo n
  split at h
  ·rename_i re wt xs z hr
   unfold zf at h
   split at h
   rotate_left
   ·cases h
   rename_i hty
   have hu8:wt=u:=by injection hty
   subst hu8
   obtain ⟨cs,h3,h4⟩:=h1
   have hc:=one rfl h4
   obtain ⟨B,R1⟩:=R.rebase (Free.nil (σ:=σ) (M:=M)) (by simp)
   obtain ⟨l,m1,m2,m3,m4,m5⟩:=R1.rows i _ hr
   obtain ⟨e3,t3,l3,n1,n2,A,cc,rfl,n3,n4⟩:=h3
   rw [m1] at n1
   cases n1
   simp only [List.cons.injEq,and_true] at hc
   refine ⟨σ,(l.2.2.drop lo).take n,_,_,hk.2,B,?_,z9e R1 (fun y hy=>m3.2 y (List.mem_of_mem_drop (List.mem_of_mem_take hy))) ?_⟩
   ·rw [List.map_take,List.map_drop,show l.2.2.map (erase (.rd wt))=xs from m2]; exact h
   ·rw [← hc]
    exact zb2 hu (by rw [List.length_take,List.length_drop]; omega) (fun hn=>by
     have hpos:0<l.2.2.length:=by omega
     obtain ⟨g,hg⟩:=zd1 m3 hpos
     refine ⟨⟨g,lo*(Ty.rd wt).sz,none⟩,by rw [n4 (.inl hn),hg]; rfl,fun i y hy=>?_⟩
     have hin:i<n:=by
      have:=(List.getElem?_eq_some_iff.1 hy).1
      rw [List.length_take] at this; omega
     rw [List.getElem?_take_of_lt hin,List.getElem?_drop] at hy
     rw [z2v,← Nat.add_mul]
     exact zas m3 hg hy)
  ·cases h
 ·cases h
end
end Go.Proofs.YtjbnebolfnjneaaGreatDoor.Ev
