/- Plain values for a program that runs on a machine: an evaluator of loaded code and the proof that it tells what the machine does (part 6 of 7). No conditions: definitions and lemmas z4r any program. -/
import Derived.Test.YtjbnebolfnjneaaGreatDoorEv5
import Derived.KernelRfl
import Derived.ChangeArms
import Derived.ChangeShapes
import Derived.ChangeOld
import Derived.SizedLaws
import Derived.Carry
import Derived.Laws.Externs
import Derived.Lib.Bytealg
import Derived.Lib.Repeat
import Derived.Shelf.Spec.SlicesInsert
import Derived.Shelf.SlGeneric
import Derived.Lib.AppendZerosOnto
import Derived.Shelf.Spec.SlicesGrow
set_option linter.unusedVariables false
set_option linter.unusedSimpArgs false
/- Behind a call that was handed rows and variables. Over any program. -/
namespace Go.Proofs.YtjbnebolfnjneaaGreatDoor.Ev
open Go.RowKit

section
variable {P : Program} {E E' : Env} {w0 w1 : World} {ok ok1 O : Nat → Prop} {σ σ' τ : St} {tm tm' : Array Value} {w w' : World} {M M' : Map} {a : Act}

theorem zdk {a b:Nat} (h:Nat.blt a b=true):a<b:=Nat.le_of_ble_eq_true h
theorem zyu {a b:Nat} (h:a<b):Nat.blt a b=true:=Nat.ble_eq_true_of_le h
structure BackOK (σ τ:St) (ids bids:List Nat) (d:Nat):Prop where
 nd:(τ.rows.map (·.1)).Nodup
 ndB:(τ.bx.map (·.1)).Nodup
 rows:∀ j r,(j,r)∈τ.rows→(j<PIN∧z41 ids (32*d) j=32*d+(j-NB)∧NB≤j∧32*d+(j-NB)<PIN∧lk σ.rows (32*d+(j-NB))=none) ∨
  (PIN≤j∧ids[j-PIN]?=some (z41 ids (32*d) j)∧∃ r0,lk σ.rows (z41 ids (32*d) j)=some r0∧r0.e=r.e∧r0.t=r.t)
 bx:∀ j b,(j,b)∈τ.bx→PIN≤j∧bids[j-PIN]?=some (z58 bids j)∧b.c.isCh=false
theorem zyv {ids:List Nat} {d j P N:Nat} {o:Option Row} (k:(Nat.ble N j&&(Nat.blt (j-N) 32&&(Nat.blt (32*d+32) P&&o.isNone)))=true) (hp:Nat.blt j P=true) :
  j<P∧N≤j∧32*d+(j-N)<P∧o=none:=by
 simp only [Bool.and_eq_true] at k
 obtain ⟨k1,k2,k3,k4⟩:=k
 have k1:=Nat.le_of_ble_eq_true k1
 have k2:=zdk k2
 have k3:=zdk k3
 have hp:=zdk hp
 refine ⟨hp,k1,by omega,?_⟩
 cases o with
 | none=>rfl
 | some r=>cases k4
theorem zyw {j P:Nat} (hp:Nat.blt j P=false):P≤j:=by
 refine Classical.byContradiction fun hn=>?_
 rw [zyu (Nat.lt_of_not_le hn)] at hp; cases hp
theorem zyx {ids:List Nat} {b j:Nat} (hp:Nat.blt j PIN=true):z41 ids b j=b+(j-NB):=by
 unfold z41; rw [hp,cond_true]
theorem zyy {ids:List Nat} {b j:Nat} (hp:Nat.blt j PIN=false):z41 ids b j=z1q ids (j-PIN):=by
 unfold z41; rw [hp,cond_false]
theorem zyz {ids:List Nat} {d j P N:Nat} {rows:List (Nat×Row)} {e:TypeId} {t:Ty} {bk:Nat} (hl:Nat.blt j P=true→bk=32*d+(j-N)) (hh:Nat.blt j P=false→bk=z1q ids (j-P))
  (k:(bif Nat.blt j P then Nat.ble N j&&(Nat.blt (j-N) 32&&(Nat.blt (32*d+32) P&&(lk rows (32*d+(j-N))).isNone)) else Nat.blt (j-P) ids.length&&(match lk rows (z1q ids (j-P)) with | some r=>Nat.beq r.e e&&decide (r.t=t) | none=>false))=true) :
  (j<P∧bk=32*d+(j-N)∧N≤j∧32*d+(j-N)<P∧lk rows (32*d+(j-N))=none)∨(P≤j∧ids[j-P]?=some bk∧∃ r0,lk rows bk=some r0∧r0.e=e∧r0.t=t):=by
 cases hp:Nat.blt j P with
 | true =>
  rw [hp] at k
  simp only [cond_true] at k
  obtain ⟨a1,a2,a3,a4⟩:=zyv (ids:=ids) k hp
  exact .inl ⟨a1,hl hp,a2,a3,a4⟩
 | false =>
  rw [hp] at k
  simp only [cond_false,Bool.and_eq_true] at k
  obtain ⟨k1,k2⟩:=k
  have k1:=zdk k1
  obtain ⟨i,e1,e2,e3⟩:=zoh k1
  have hb:bk=i:=(hh hp).trans e2
  refine .inr ⟨zyw hp,by rw [hb]; exact e1,?_⟩
  rw [hb]
  rw [e2] at k2
  split at k2
  ·rename_i r0 hr0
   simp only [Bool.and_eq_true,decide_eq_true_eq] at k2
   exact ⟨r0,hr0,Nat.eq_of_beq_eq_true k2.1,k2.2⟩
  ·cases k2
theorem zz0 {bids:List Nat} {j P bk:Nat} {c:Bool} (hb:bk=z1q bids (j-P)) (k:(Nat.ble P j&&(Nat.blt (j-P) bids.length&&!c))=true):P≤j∧bids[j-P]?=some bk∧c=false:=by
 simp only [Bool.and_eq_true,Bool.not_eq_true'] at k
 obtain ⟨k1,k2,k3⟩:=k
 have k2:=zdk k2
 obtain ⟨i,e1,e2,e3⟩:=zoh k2
 exact ⟨Nat.le_of_ble_eq_true k1,by rw [hb,e2]; exact e1,k3⟩
theorem zz1 {ids bids:List Nat} {d:Nat} (h:σ.okBack τ ids bids d=true):BackOK σ τ ids bids d:=by
 simp only [St.okBack,Bool.and_eq_true] at h
 obtain ⟨h1,h2,h3,h4⟩:=h
 rw [List.all_eq_true] at h3 h4
 refine ⟨zdj h1,zdj h2,fun j r hj=>?_,fun j b hj=>?_⟩
 ·have k:=h3 _ hj
  exact zyz zyx zyy k
 ·have k:=h4 _ hj
  exact zz0 rfl k

theorem zz2 {a b:Option Nat} (h:(a.map fun g=>(⟨g,0,none⟩:Addr))=b.map fun g=>⟨g,0,none⟩):a=b:=by
 cases a <;> cases b <;> simp_all

structure Joint (w0:World) (ok O:Nat→Prop) (w w2:World) (ok2 O2 Own:Nat→Prop) (w' W:World) (OK OO:Nat→Prop):Prop where
 rd:∀ (t:Ty) (x:t.T) (cs:List Value),Rd w0 ok t x cs→Rd W OK t x cs
 rd2:∀ (t:Ty) (x:t.T) (cs:List Value),Rd w2 ok2 t x cs→Rd W OK t x cs
 stay:∀ k,k<w.heap.size→¬ Own k→w'.heap[k]?=w.heap[k]?
 new:∀ k,¬ ok2 k∧(O2 k∨w2.heap.size≤k)→(¬ OK k∧(OO k∨W.heap.size≤k))∧(Own k∨w.heap.size≤k)
 old:∀ k,k<w.heap.size→¬ Own k→¬ ok k∧(O k∨w0.heap.size≤k)→¬ OK k∧(OO k∨W.heap.size≤k)
 okB:∀ k,OK k→k<W.heap.size∧¬ OO k
 kept:Kept OO W w'
theorem zop (R:Rep E w0 ok O σ tm w M) {l:List SV} {ids bids:List Nat} {d:Nat} (H:InOK σ l ids bids) {v:Value} {w2:World} {ok2 O2:Nat→Prop} (R':Rep (zgb E M ids bids) w2 ok2 O2 τ #[v] w' M') {W:World} {OK OO:Nat→Prop} (J:Joint w0 ok O w w2 ok2 O2 (Own M ids bids) w' W OK OO) (B:BackOK σ τ ids bids d) {v0:SV} (hv:lk τ.sl 0=some v0) {dst:Option Tmp} (hin:inB dst tm) :
  ∃ M'',Rep E W OK OO ((σ.merge τ ids bids d).put dst (v0.ren2 (z41 ids (32*d)) (z58 bids))) (z3l tm dst v) w' M'':=by
 let f:=z41 ids (32*d)
 let fb:=z58 bids
 have hf:f=z41 ids (32*d):=rfl
 have hfb:fb=z58 bids:=rfl
 -- names back
 have inj:∀ j r j' r',(j,r)∈τ.rows→(j',r')∈τ.rows→f j=f j'→j=j':=by
  intro j r j' r' h h' e
  rcases B.rows j r h with ⟨a1,a2,a3,a4,a5⟩ | ⟨a1,a2,r0,a3,_⟩ <;> rcases B.rows j' r' h' with ⟨b1,b2,b3,b4,b5⟩ | ⟨b1,b2,r1,b3,_⟩
  ·rw [hf,a2,b2] at e; omega
  ·rw [hf,a2] at e; rw [← e,a5] at b3; cases b3
  ·rw [hf,b2] at e; rw [e,b5] at a3; cases a3
  ·have:z41 ids (32*d) j=z41 ids (32*d) j':=e
   rw [← this] at b2
   have:=zg5 H.nd a2 b2
   omega
 have injB:∀ j b j' b',(j,b)∈τ.bx→(j',b')∈τ.bx→fb j=fb j'→j=j':=by
  intro j b j' b' h h' e
  obtain ⟨a1,a2,_⟩:=B.bx j b h
  obtain ⟨b1,b2,_⟩:=B.bx j' b' h'
  have:z58 bids j=z58 bids j':=e
  rw [← this] at b2
  have:=zg5 H.ndB a2 b2
  omega
 let g:Nat→Loc:=fun i=>match τ.rows.find? (fun x=>Nat.beq (f x.1) i) with | some x=>M'.loc x.1 | none=>M.loc i
 have gNew:∀ j r,(j,r)∈τ.rows→g (f j)=M'.loc j:=by
  intro j r h
  show (match τ.rows.find? (fun x=>Nat.beq (f x.1) (f j)) with | some x=>M'.loc x.1 | none=>M.loc (f j))=_
  cases hq:τ.rows.find? (fun x=>Nat.beq (f x.1) (f j)) with
  | none=>have:=List.find?_eq_none.1 hq _ h; simp at this
  | some x =>
   have h1:=List.mem_of_find?_eq_some hq
   have h2:f x.1=f j:=by have:=List.find?_some hq; exact Nat.eq_of_beq_eq_true this
   show M'.loc x.1=M'.loc j
   rw [inj x.1 x.2 j r h1 h h2]
 have gOld:∀ i,(∀ j r,(j,r)∈τ.rows→f j≠i)→g i=M.loc i:=by
  intro i h
  show (match τ.rows.find? (fun x=>Nat.beq (f x.1) i) with | some x=>M'.loc x.1 | none=>M.loc i)=_
  cases hq:τ.rows.find? (fun x=>Nat.beq (f x.1) i) with
  | none=>rfl
  | some x =>
   have h2:f x.1=i:=by have:=List.find?_some hq; exact Nat.eq_of_beq_eq_true this
   exact absurd h2 (h x.1 x.2 (List.mem_of_find?_eq_some hq))
 let gb (q q':Nat→Nat):Nat→Nat:=fun i=>match τ.bx.find? (fun x=>Nat.beq (fb x.1) i) with | some x=>q' x.1 | none=>q i
 have bNew:∀ (q q':Nat→Nat) j b,(j,b)∈τ.bx→gb q q' (fb j)=q' j:=by
  intro q q' j r h
  show (match τ.bx.find? (fun x=>Nat.beq (fb x.1) (fb j)) with | some x=>q' x.1 | none=>q (fb j))=_
  cases hq:τ.bx.find? (fun x=>Nat.beq (fb x.1) (fb j)) with
  | none=>have:=List.find?_eq_none.1 hq _ h; simp at this
  | some x =>
   have h1:=List.mem_of_find?_eq_some hq
   have h2:fb x.1=fb j:=by have:=List.find?_some hq; exact Nat.eq_of_beq_eq_true this
   show q' x.1=q' j
   rw [injB x.1 x.2 j r h1 h h2]
 have bOld:∀ (q q':Nat→Nat) i,(∀ j b,(j,b)∈τ.bx→fb j≠i)→gb q q' i=q i:=by
  intro q q' i h
  show (match τ.bx.find? (fun x=>Nat.beq (fb x.1) i) with | some x=>q' x.1 | none=>q i)=_
  cases hq:τ.bx.find? (fun x=>Nat.beq (fb x.1) i) with
  | none=>rfl
  | some x =>
   have h2:fb x.1=i:=by have:=List.find?_some hq; exact Nat.eq_of_beq_eq_true this
   exact absurd h2 (h x.1 x.2 (List.mem_of_find?_eq_some hq))
 let N:Map:=⟨g,gb M.blk M'.blk,gb M.bn M'.bn,gb M.bw M'.bw⟩
 refine ⟨N,?_⟩
 -- what comes back of what was handed z4r
 have back:∀ j r,(j,r)∈τ.rows→PIN≤j→f j∈ids∧zg4 (M.loc (f j)) (M'.loc j):=by
  intro j r h hj
  rcases B.rows j r h with ⟨a1,_⟩ | ⟨a1,a2,r0,a3,a4,a5⟩
  ·omega
  ·refine ⟨List.mem_of_getElem? a2,?_⟩
   have hlk:=z55 B.nd h
   obtain ⟨l0,e1,_⟩:=R.rows _ r0 a3
   obtain ⟨l1,e2,_⟩:=R'.rows j r hlk
   have hp:=R'.pin j hj ⟨r,hlk⟩
   have hp:z8 (M'.loc j).1 (M'.loc j).2=[hdL (M.loc (z1q ids (j-PIN)))]:=hp
   rw [z6q a2] at hp
   have e1':M.loc (f j)=⟨.sl r0.e r0.t,l0⟩:=e1
   have:M.loc (z41 ids (32*d) j)=⟨.sl r0.e r0.t,l0⟩:=e1
   rw [this,e2] at hp
   obtain ⟨re,rt,rx,rz⟩:=r
   obtain ⟨re0,rt0,rx0,rz0⟩:=r0
   simp only at a4 a5 e1' e2 hp
   subst a4; subst a5
   refine ⟨re0,rt0,l0,l1,e1',e2,?_⟩
   simp only [hdL,z8,List.headD_cons,List.cons.injEq,Value.slice.injEq,and_true] at hp
   exact ⟨zz2 hp.1,hp.2.2,hp.2.1⟩
 have z58:∀ j b,(j,b)∈τ.bx→fb j∈bids∧M'.blk j=M.blk (fb j):=by
  intro j b h
  obtain ⟨a1,a2,a3⟩:=B.bx j b h
  have hlk:=z55 B.ndB h
  have:=R'.pinB j a1 ⟨b,hlk⟩
  have this:M'.blk j=M.blk (z1q bids (j-PIN)):=this
  rw [z6q a2] at this
  exact ⟨List.mem_of_getElem? a2,this⟩
 -- the two kinds of rows
 let rs:=z7w f τ.rows
 let bs:=z7x f fb τ.bx
 have rowC:∀ i r,lk (rs++z4j ids σ.rows) i=some r→(∃ j,f j=i∧(j,r)∈τ.rows)∨(i∉ids∧lk σ.rows i=some r∧∀ j r,(j,r)∈τ.rows→f j≠i):=by
  intro i r h
  rw [z2b] at h
  cases hn:lk rs i with
  | some r' =>
   rw [hn] at h
   cases h
   exact .inl (zg7.1 (z13 hn))
  | none =>
   rw [hn] at h
   have h:lk (z4j ids σ.rows) i=some r:=h
   rw [zbe] at h
   split at h
   ·cases h
   ·rename_i hni
    refine .inr ⟨hni,h,fun j r' hj e=>?_⟩
    have:(i,r')∈rs:=zg7.2 ⟨j,e,hj⟩
    obtain ⟨r2,hr2⟩:=z5g (List.mem_map.2 ⟨(i,r'),this,rfl⟩)
    rw [hn] at hr2; cases hr2
 have boxC:∀ (G:SV→SV) i b,lk (bs++zw (fun b:Bx=>(⟨b.ty,G b.c⟩:Bx)) (z4j bids σ.bx)) i=some b→(∃ j b0,fb j=i∧(j,b0)∈τ.bx∧b=⟨b0.ty,b0.c.ren2 f fb⟩)∨(i∉bids∧(∃ b0,lk σ.bx i=some b0∧b=⟨b0.ty,G b0.c⟩)∧∀ j b,(j,b)∈τ.bx→fb j≠i):=by
  intro G i r h
  rw [z2b] at h
  cases hn:lk bs i with
  | some r' =>
   rw [hn] at h
   cases h
   exact .inl (zg8.1 (z13 hn))
  | none =>
   rw [hn] at h
   have h:lk (zw (fun b:Bx=>(⟨b.ty,G b.c⟩:Bx)) (z4j bids σ.bx)) i=some r:=h
   rw [z24] at h
   obtain ⟨b0,h0,rfl⟩:=Option.map_eq_some_iff.1 h
   rw [zbe] at h0
   split at h0
   ·cases h0
   ·rename_i hni
    refine .inr ⟨hni,⟨b0,h0,rfl⟩,fun j r' hj e=>?_⟩
    have:(i,(⟨r'.ty,r'.c.ren2 f fb⟩:Bx))∈bs:=zg8.2 ⟨j,r',e,hj,rfl⟩
    obtain ⟨r2,hr2⟩:=z5g (List.mem_map.2 ⟨_,this,rfl⟩)
    rw [hn] at hr2; cases hr2
 -- blocks
 have notOwn:∀ i,i∉ids→(∃ r,lk σ.rows i=some r)→∀ k∈z6 (M.loc i).1 (M.loc i).2,¬ Own M ids bids k:=by
  intro i hi hr k hk h
  rcases h with ⟨i',hi',hk'⟩ | ⟨b,hb,rfl⟩
  ·obtain ⟨r',hr'⟩:=H.rows i' hi'
   exact R.rr i i' (fun e=>hi (e▸hi')) hr ⟨r',hr'⟩ k hk hk'
  ·obtain ⟨x,hx,_⟩:=H.bx b hb
   exact R.rb i b hr ⟨x,hx⟩ hk
 have notOwnB:∀ i,i∉bids→(∃ b,lk σ.bx i=some b)→¬ Own M ids bids (M.blk i):=by
  intro i hi hb h
  rcases h with ⟨i',hi',hk'⟩ | ⟨b,hb',e⟩
  ·obtain ⟨r',hr'⟩:=H.rows i' hi'
   exact R.rb i' i ⟨r',hr'⟩ hb hk'
  ·obtain ⟨x,hx,_⟩:=H.bx b hb'
   exact R.bb i b (fun e=>hi (e▸hb')) hb ⟨x,hx⟩ e
 have ltR:∀ i,(∃ r,lk σ.rows i=some r)→∀ k∈z6 (M.loc i).1 (M.loc i).2,k<w.heap.size:=by
  rintro i ⟨r,hr⟩ k hk
  obtain ⟨q,e1,_,e2,_⟩:=R.rows i r hr
  rw [e1] at hk
  exact z1d e2 k hk
 have ltB:∀ i,(∃ b,lk σ.bx i=some b)→M.blk i<w.heap.size:=by
  rintro i ⟨b,hb⟩
  obtain ⟨cs,_,h,_⟩:=R.boxes i b hb
  exact (Array.getElem?_eq_some_iff.1 h).1
 have stayR:∀ i,i∉ids→(∃ r,lk σ.rows i=some r)→∀ k∈z6 (M.loc i).1 (M.loc i).2,w'.heap[k]?=w.heap[k]? :=
  fun i hi hr k hk=>J.stay k (ltR i hr k hk) (notOwn i hi hr k hk)
 have newR:∀ j r,(j,r)∈τ.rows→∀ k∈z6 (M'.loc j).1 (M'.loc j).2,(¬ OK k∧(OO k∨W.heap.size≤k))∧(Own M ids bids k∨w.heap.size≤k):=fun j r h k hk=>J.new k (R'.ownR j ⟨r,z55 B.nd h⟩ k hk)
 have newB:∀ j b,(j,b)∈τ.bx→(¬ OK (M'.blk j)∧(OO (M'.blk j)∨W.heap.size≤M'.blk j))∧(Own M ids bids (M'.blk j)∨w.heap.size≤M'.blk j):=fun j b h=>J.new _ (R'.ownB j ⟨b,z55 B.ndB h⟩)
 have base:=J.rd2
 have HR:Renm2 M' N f fb (fun j=>∃ r,lk τ.rows j=some r) (fun j=>∃ b,lk τ.bx j=some b) :=
  ⟨fun j ⟨r,h⟩=>gNew j r (z13 h),fun j ⟨b,h⟩=>⟨bNew _ _ j b (z13 h),bNew _ _ j b (z13 h),bNew _ _ j b (z13 h)⟩⟩
 have gd:∀ i,z23 bids (bs.map (·.1)) i=true→has bids i=true:=fun i h=>by
  simp only [z23,Bool.and_eq_true] at h; exact h.1
 have near:∀ s:SV,Live σ s→Near M N (z23 ids (rs.map (·.1))) (has ids) (z23 bids (bs.map (·.1))) (has bids) s:=by
  intro s hs
  refine ⟨fun i hi hg=>?_,fun i hi hg=>?_,gd⟩
  ·obtain ⟨r,hr⟩:=hs.rows i hi
   by_cases hm:i∈ids
   ·have hh:=z54.2 hm
    refine ⟨fun h=>(by rw [hh] at h; cases h),?_⟩
    unfold z23 at hg
    rw [hh,Bool.true_and,Bool.not_eq_false'] at hg
    have hk:=z54.1 hg
    rw [zoi] at hk
    obtain ⟨j,hj,rfl⟩:=List.mem_map.1 hk
    obtain ⟨r',hr'⟩:=z5g hj
    have hj':=z13 hr'
    show zg4 (M.loc (f j)) (g (f j))
    rw [gNew j r' hj']
    refine (back j r' hj' ?_).2
    rcases B.rows j r' hj' with ⟨_,a2,_,_,a5⟩ | ⟨a1,_⟩
    ·exfalso
     have:lk σ.rows (f j)=none:=by rw [hf,a2]; exact a5
     rw [this] at hr; cases hr
    ·exact a1
   ·have:g i=M.loc i:=gOld i fun j r' hj e=>by
     rcases B.rows j r' hj with ⟨_,a2,_,_,a5⟩ | ⟨a1,a2,_⟩
     ·rw [← e,hf,a2,a5] at hr; cases hr
     ·exact hm (e▸List.mem_of_getElem? a2)
    refine ⟨fun _=>this,?_⟩
    show zg4 (M.loc i) (g i)
    rw [this]
    obtain ⟨q,e1,_⟩:=R.rows i r hr
    exact ⟨r.e,r.t,q,q,e1,e1,rfl,rfl,rfl⟩
  ·obtain ⟨b,hb⟩:=hs.boxes i hi
   by_cases hm:i∈bids
   ·have hh:=z54.2 hm
    unfold z23 at hg
    rw [hh,Bool.true_and,Bool.not_eq_false'] at hg
    have hk:=z54.1 hg
    rw [zoj] at hk
    obtain ⟨j,hj,rfl⟩:=List.mem_map.1 hk
    obtain ⟨b',hb'⟩:=z5g hj
    have hj':=z13 hb'
    refine ⟨?_,fun h=>(by rw [hh] at h; cases h)⟩
    show gb M.blk M'.blk (fb j)=_
    rw [bNew _ _ j b' hj']
    exact (z58 j b' hj').2
   ·have hno:∀ j b,(j,b)∈τ.bx→fb j≠i:=fun j b hj e=>hm (e▸(z58 j b hj).1)
    exact ⟨bOld _ _ i hno,fun _=>⟨bOld _ _ i hno,bOld _ _ i hno⟩⟩
 have live1:∀ s:SV,Live τ s→Live ((σ.merge τ ids bids d).put dst (v0.ren2 f fb)) (s.ren2 f fb):=by
  intro s hs
  refine ⟨fun i hi=>?_,fun i hi=>?_⟩
  ·rw [(z6p f fb s).1] at hi
   obtain ⟨j,hj,rfl⟩:=List.mem_map.1 hi
   obtain ⟨r,hr⟩:=hs.rows j hj
   rw [z64]
   have:(f j,r)∈rs++z4j ids σ.rows:=List.mem_append.2 (.inl (zg7.2 ⟨j,rfl,z13 hr⟩))
   exact z5g (List.mem_map.2 ⟨_,this,rfl⟩)
  ·rw [(z6p f fb s).2.1] at hi
   obtain ⟨j,hj,rfl⟩:=List.mem_map.1 hi
   obtain ⟨b,hb⟩:=hs.boxes j hj
   rw [z5a]
   have:(fb j,(⟨b.ty,b.c.ren2 f fb⟩:Bx))∈bs:=zg8.2 ⟨j,b,rfl,z13 hb,rfl⟩
   exact z5g (List.mem_map.2 ⟨_,List.mem_append.2 (.inl this),rfl⟩)
 have live2:∀ s:SV,Live σ s→Live ((σ.merge τ ids bids d).put dst (v0.ren2 f fb)) (s.cutR (z23 ids (rs.map (·.1))) (has ids) (z23 bids (bs.map (·.1))) (has bids)):=by
  intro s hs
  obtain ⟨c1,c2,_⟩:=zga (z23 ids (rs.map (·.1))) (has ids) (z23 bids (bs.map (·.1))) (has bids) gd s
  refine ⟨fun i hi=>?_,fun i hi=>?_⟩
  ·obtain ⟨h1,h2⟩:=c1 i hi
   obtain ⟨r,hr⟩:=hs.rows i h1
   rw [z64]
   by_cases hm:i∈ids
   ·unfold z23 at h2
    rw [z54.2 hm,Bool.true_and,Bool.not_eq_false'] at h2
    obtain ⟨r',hr'⟩:=z5g (z54.1 h2)
    exact z5g (List.mem_map.2 ⟨(i,r'),List.mem_append.2 (.inl (z13 hr')),rfl⟩)
   ·have:lk (z4j ids σ.rows) i=some r:=by rw [zbe,if_neg hm]; exact hr
    exact z5g (List.mem_map.2 ⟨(i,r),List.mem_append.2 (.inr (z13 this)),rfl⟩)
  ·obtain ⟨h1,h2⟩:=c2 i hi
   obtain ⟨b,hb⟩:=hs.boxes i h1
   rw [z5a]
   by_cases hm:i∈bids
   ·unfold z23 at h2
    rw [z54.2 hm,Bool.true_and,Bool.not_eq_false'] at h2
    obtain ⟨r',hr'⟩:=z5g (z54.1 h2)
    exact z5g (List.mem_map.2 ⟨(i,r'),List.mem_append.2 (.inl (z13 hr')),rfl⟩)
   ·have h3:lk (z4j bids σ.bx) i=some b:=by rw [zbe,if_neg hm]; exact hb
    have:lk (zw (fun b:Bx=>(⟨b.ty,b.c.cutR (z23 ids (rs.map (·.1))) (has ids) (z23 bids (bs.map (·.1))) (has bids)⟩:Bx)) (z4j bids σ.bx)) i=some ⟨b.ty,b.c.cutR (z23 ids (rs.map (·.1))) (has ids) (z23 bids (bs.map (·.1))) (has bids)⟩:=by rw [z24,h3]; rfl
    exact z5g (List.mem_map.2 ⟨_,List.mem_append.2 (.inr (z13 this)),rfl⟩)
 have hrow:∀ i,(∃ r,lk ((σ.merge τ ids bids d).put dst (v0.ren2 f fb)).rows i=some r)→(∃ j r,f j=i∧(j,r)∈τ.rows∧g i=M'.loc j)∨(i∉ids∧(∃ r,lk σ.rows i=some r)∧g i=M.loc i):=by
  rintro i ⟨r,h⟩
  rw [z64] at h
  rcases rowC i r h with ⟨j,rfl,hj⟩ | ⟨h1,h2,h3⟩
  ·exact .inl ⟨j,r,rfl,hj,gNew j r hj⟩
  ·exact .inr ⟨h1,⟨r,h2⟩,gOld i h3⟩
 have hbox:∀ i,(∃ b,lk ((σ.merge τ ids bids d).put dst (v0.ren2 f fb)).bx i=some b)→(∃ j b,fb j=i∧(j,b)∈τ.bx∧gb M.blk M'.blk i=M'.blk j)∨(i∉bids∧(∃ b,lk σ.bx i=some b)∧gb M.blk M'.blk i=M.blk i):=by
  rintro i ⟨r,h⟩
  rw [z5a] at h
  rcases boxC _ i r h with ⟨j,b0,rfl,hj,_⟩ | ⟨h1,⟨b0,h2,_⟩,h3⟩
  ·exact .inl ⟨j,b0,rfl,hj,bNew _ _ j b0 hj⟩
  ·exact .inr ⟨h1,⟨b0,h2⟩,bOld _ _ i h3⟩
 constructor
 ·refine zly (σ:=σ.merge τ ids bids d) (P:=zi W OK N) (sl:=(σ.merge τ ids bids d).sl) (d:=dst) (s:=v0.ren2 f fb) (v:=v) (fun k u hk=>?_) ?_ hin
  ·have hk:lk (zw (SV.cutR (z23 ids (rs.map (·.1))) (has ids) (z23 bids (bs.map (·.1))) (has bids)) σ.sl) k=some u:=hk
   rw [z24] at hk
   obtain ⟨u0,h1,rfl⟩:=Option.map_eq_some_iff.1 hk
   obtain ⟨z,h2,h3⟩:=R.slots k u0 h1
   exact ⟨z,h2,zyr (near u0 (R.liveS k u0 h1)) (zda J.rd h3)⟩
  ·obtain ⟨z,h1,h2⟩:=R'.slots 0 v0 hv
   have:v=z:=by simpa using h1
   subst this
   have hL:=R'.liveS 0 v0 hv
   exact zof HR (fun i hi=>hL.rows i hi) (fun i hi=>hL.boxes i hi) (zda base h2)
 ·intro i r h
  rw [z64] at h
  rcases rowC i r h with ⟨j,rfl,hj⟩ | ⟨h1,h2,h3⟩
  ·obtain ⟨q,e1,e2⟩:=R'.rows j r (z55 B.nd hj)
   exact ⟨q,(gNew j r hj).trans e1,e2.1,z5v base e2.2.1,e2.2.2⟩
  ·obtain ⟨q,e1,e2,e3,e4,e5⟩:=R.rows i r h2
   have hst:=stayR i h1 ⟨r,h2⟩
   rw [e1] at hst
   exact ⟨q,(gOld i h3).trans e1,e2,z1t hst (z5v J.rd e3),e4,fun hz=>z1u hst (e5 hz)⟩
 ·intro i b h
  rw [z5a] at h
  rcases boxC _ i b h with ⟨j,b0,rfl,hj,rfl⟩ | ⟨h1,⟨b0,h2,rfl⟩,h3⟩
  ·have hlk:=z55 B.ndB hj
   obtain ⟨cs,e1,e2,e3⟩:=R'.boxes j b0 hlk
   have hL:=R'.liveB j b0 hlk
   refine ⟨cs,zoe HR (fun i hi=>hL.rows i hi) (fun i hi=>hL.boxes i hi) (zaz base e1),?_,fun hc=>?_⟩
   ·show w'.heap[gb M.blk M'.blk (fb j)]?=_
    rw [bNew _ _ j b0 hj]; exact e2
   ·rw [(z6p f fb b0.c).2.2.2.2] at hc
    rw [(B.bx j b0 hj).2.2] at hc
    cases hc
  ·obtain ⟨cs,e1,e2,e3⟩:=R.boxes i b0 h2
   have hL:=R.liveB i b0 h2
   refine ⟨cs,zyp (near b0.c hL) (zaz J.rd e1),?_,fun hc=>?_⟩
   ·show w'.heap[gb M.blk M'.blk i]?=_
    rw [bOld _ _ i h3]
    exact (J.stay _ (ltB i ⟨b0,h2⟩) (notOwnB i h1 ⟨b0,h2⟩)).trans e2
   ·have c:=zga (z23 ids (rs.map (·.1))) (has ids) (z23 bids (bs.map (·.1))) (has bids) gd b0.c
    rw [c.2.2.2.2] at hc
    obtain ⟨f1,f2,f3⟩:=e3 hc
    refine ⟨?_,?_,?_⟩
    ·show gb M.bn M'.bn i=_
     rw [bOld _ _ i h3,c.2.2.2.1]; exact f1
    ·show gb M.bw M'.bw i=_
     rw [bOld _ _ i h3]; exact f2
    ·rw [c.2.2.2.1]; exact f3
 ·intro i i' hij hi hi' k hk
  show k∉z6 (g i').1 (g i').2
  have hk:k∈z6 (g i).1 (g i).2:=hk
  rcases hrow i hi with ⟨j,r,rfl,hj,e1⟩ | ⟨h1,h2,e1⟩ <;> rcases hrow i' hi' with ⟨j',r',rfl,hj',e2⟩ | ⟨h3,h4,e2⟩
  ·rw [e1] at hk; rw [e2]
   exact R'.rr j j' (fun e=>hij (by rw [e])) ⟨r,z55 B.nd hj⟩ ⟨r',z55 B.nd hj'⟩ k hk
  ·rw [e1] at hk; rw [e2]
   intro hk'
   have:=(newR j r hj k hk).2
   have:=ltR i' h4 k hk'
   have:=notOwn i' h3 h4 k hk'
   rcases (newR j r hj k hk).2 with h | h
   ·exact this h
   ·omega
  ·rw [e1] at hk; rw [e2]
   intro hk'
   have:=ltR i h2 k hk
   have:=notOwn i h1 h2 k hk
   rcases (newR j' r' hj' k hk').2 with h | h
   ·exact this h
   ·omega
  ·rw [e1] at hk; rw [e2]
   exact R.rr i i' hij h2 h4 k hk
 ·intro i i' hij hi hi'
  show gb M.blk M'.blk i≠gb M.blk M'.blk i'
  rcases hbox i hi with ⟨j,r,rfl,hj,e1⟩ | ⟨h1,h2,e1⟩ <;> rcases hbox i' hi' with ⟨j',r',rfl,hj',e2⟩ | ⟨h3,h4,e2⟩
  ·rw [e1,e2]
   exact R'.bb j j' (fun e=>hij (by rw [e])) ⟨r,z55 B.ndB hj⟩ ⟨r',z55 B.ndB hj'⟩
  ·rw [e1,e2]
   intro e
   have h5:=ltB i' h4
   have h6:=notOwnB i' h3 h4
   rw [← e] at h5 h6
   rcases (newB j r hj).2 with h | h
   ·exact h6 h
   ·omega
  ·rw [e1,e2]
   intro e
   have h5:=ltB i h2
   have h6:=notOwnB i h1 h2
   rw [e] at h5 h6
   rcases (newB j' r' hj').2 with h | h
   ·exact h6 h
   ·omega
  ·rw [e1,e2]
   exact R.bb i i' hij h2 h4
 ·intro i i' hi hi'
  show gb M.blk M'.blk i'∉z6 (g i).1 (g i).2
  rcases hrow i hi with ⟨j,r,rfl,hj,e1⟩ | ⟨h1,h2,e1⟩ <;> rcases hbox i' hi' with ⟨j',r',rfl,hj',e2⟩ | ⟨h3,h4,e2⟩
  ·rw [e1,e2]
   exact R'.rb j j' ⟨r,z55 B.nd hj⟩ ⟨r',z55 B.ndB hj'⟩
  ·rw [e1,e2]
   intro hk
   have h5:=ltB i' h4
   have h6:=notOwnB i' h3 h4
   rcases (newR j r hj _ hk).2 with h | h
   ·exact h6 h
   ·omega
  ·rw [e1,e2]
   intro hk
   have h5:=ltR i h2 _ hk
   have h6:=notOwn i h1 h2 _ hk
   rcases (newB j' r' hj').2 with h | h
   ·exact h6 h
   ·omega
  ·rw [e1,e2]
   exact R.rb i i' h2 h4
 ·intro i hi k hk
  have hk:k∈z6 (g i).1 (g i).2:=hk
  rcases hrow i hi with ⟨j,r,rfl,hj,e1⟩ | ⟨h1,h2,e1⟩
  ·rw [e1] at hk; exact (newR j r hj k hk).1
  ·rw [e1] at hk; exact J.old k (ltR i h2 k hk) (notOwn i h1 h2 k hk) (R.ownR i h2 k hk)
 ·intro i hi
  show ¬ OK (gb M.blk M'.blk i)∧(OO (gb M.blk M'.blk i)∨W.heap.size≤gb M.blk M'.blk i)
  rcases hbox i hi with ⟨j,r,rfl,hj,e1⟩ | ⟨h1,h2,e1⟩
  ·rw [e1]; exact (newB j r hj).1
  ·rw [e1]; exact J.old _ (ltB i h2) (notOwnB i h1 h2) (R.ownB i h2)
 ·exact J.okB
 ·intro k u hk
  rcases zlz hk with rfl | h
  ·exact live1 v0 (R'.liveS 0 v0 hv)
  ·have h:lk (zw (SV.cutR (z23 ids (rs.map (·.1))) (has ids) (z23 bids (bs.map (·.1))) (has bids)) σ.sl) k=some u:=h
   rw [z24] at h
   obtain ⟨u0,h1,rfl⟩:=Option.map_eq_some_iff.1 h
   exact live2 u0 (R.liveS k u0 h1)
 ·intro i b h
  rw [z5a] at h
  rcases boxC _ i b h with ⟨j,b0,rfl,hj,rfl⟩ | ⟨h1,⟨b0,h2,rfl⟩,h3⟩
  ·exact live1 b0.c (R'.liveB j b0 (z55 B.ndB hj))
  ·exact live2 b0.c (R.liveB i b0 h2)
 ·exact J.kept
 ·intro i hi hr
  show z8 (g i).1 (g i).2=_
  rcases hrow i hr with ⟨j,r,rfl,hj,e1⟩ | ⟨h1,h2,e1⟩
  ·rw [e1]
   have hge:PIN≤j:=by
    rcases B.rows j r hj with ⟨_,a2,_,a4,_⟩ | ⟨a1,_⟩
    ·rw [hf,a2] at hi; omega
    ·exact a1
   obtain ⟨hm,e,t,l0,l1,q1,q2,q3,q4,q5⟩:=back j r hj hge
   obtain ⟨r0,hr0⟩:=H.rows (f j) hm
   rw [← R.pin (f j) hi ⟨r0,hr0⟩,q1,q2]
   simp [z8,q3,q4,q5]
  ·rw [e1]; exact R.pin i hi h2
 ·intro i hi hr
  show gb M.blk M'.blk i=_
  rcases hbox i hr with ⟨j,r,rfl,hj,e1⟩ | ⟨h1,h2,e1⟩
  ·rw [e1]
   obtain ⟨hm,e⟩:=z58 j r hj
   obtain ⟨x,hx,_⟩:=H.bx (fb j) hm
   rw [e]; exact R.pinB (fb j) hi ⟨x,hx⟩
  ·rw [e1]; exact R.pinB i hi h2
theorem zz3 (R:Rep E w0 ok O σ tm w M) {l:List SV} {ids bids:List Nat} {d:Nat} (H:InOK σ l ids bids) {v:Value} {b:Bool} {w2:World} {ok2 O2:Nat→Prop} (hc:z2i b w ok (Own M ids bids) w2 ok2 O2) (R':Rep (zgb E M ids bids) w2 ok2 O2 τ #[v] w' M') (B:BackOK σ τ ids bids d) {v0:SV} (hv:lk τ.sl 0=some v0) {dst:Option Tmp} (hin:inB dst tm) :
  ∃ M'' w3 ok3 O3,z2i b w0 ok O w3 ok3 O3∧Rep E w3 ok3 O3 ((σ.merge τ ids bids d).put dst (v0.ren2 (z41 ids (32*d)) (z58 bids))) (z3l tm dst v) w' M'':=by
 have ownO:∀ k,Own M ids bids k→O k∨w0.heap.size≤k:=by
  rintro k (⟨i,hi,hk⟩ | ⟨b,hb,rfl⟩)
  ·obtain ⟨r,hr⟩:=H.rows i hi
   exact (R.ownR i ⟨r,hr⟩ k hk).2
  ·obtain ⟨x,hx,_⟩:=H.bx b hb
   exact (R.ownB b ⟨x,hx⟩).2
 have hsz:=R.kept.size
 rcases hc with ⟨rfl,rfl,rfl⟩ | ⟨hb,hB⟩
 ·obtain ⟨M'',R''⟩:=zop R H R' (W:=w0) (OK:=ok2) (OO:=O) ⟨fun _ _ _ h=>h,fun t x cs h=>h.move fun k hk=>(R.ok_kept hk).symm,fun k hk hn=>R'.kept.block k hk hn,fun k h=>⟨⟨h.1,h.2.elim (ownO k) (fun h=>.inr (Nat.le_trans hsz h))⟩,h.2⟩,fun k _ _ h=>h,R.okB,
   R.kept.trans R'.kept fun k hk ho=>(ownO k ho).elim id fun h=>absurd hk (Nat.not_lt.2 h)⟩ B hv hin
  exact ⟨M'',_,_,_,.refl,R''⟩
 ·have hs2:=hB.kept.size
  have notOK:∀ k,k<w.heap.size→¬ Own M ids bids k→¬ ok k→¬ ok2 k:=fun k h1 h2 h3 h4=>(hB.new k h4).elim h3 fun h=>h.elim h2 fun h=>absurd h1 (Nat.not_lt.2 h)
  obtain ⟨M'',R''⟩:=zop R H R' (W:=w2) (OK:=ok2) (OO:=fun k=>O2 k∨((O k∨w0.heap.size≤k)∧k<w.heap.size∧¬ Own M ids bids k∧¬ ok k)) ⟨fun _ _ _ h=>hB.rd (R.rd h),fun _ _ _ h=>h,
   fun k hk hn=>(hB.kept.trans R'.kept fun i hi ho=>(hB.own i ho).elim id fun h=>absurd hi (Nat.not_lt.2 h)).block k hk hn,
   fun k h=>⟨⟨h.1,h.2.elim (fun h=>.inl (.inl h)) .inr⟩,h.2.elim (hB.own k) fun h=>.inr (Nat.le_trans hs2 h)⟩,
   fun k h1 h2 h3=>⟨notOK k h1 h2 h3.1,.inl (.inr ⟨h3.2,h1,h2,h3.1⟩)⟩,
   fun k hk=>⟨(R'.okB k hk).1,fun h=>h.elim (R'.okB k hk).2 fun h=>notOK k h.2.1 h.2.2.1 h.2.2.2 hk⟩,
   ⟨R'.kept.os,R'.kept.tape,R'.kept.output,R'.kept.size,fun k h1 h2=>R'.kept.block k h1 fun h=>h2 (.inl h)⟩⟩ B hv hin
  refine ⟨M'',_,_,_,.inr ⟨hb,⟨R.kept.trans hB.kept fun k hk ho=>(ownO k ho).elim id fun h=>absurd hk (Nat.not_lt.2 h),hB.inc,R.okB,fun k h=>?_,fun k h=>?_⟩⟩,R''⟩
  ·rcases h with h | h
   ·rcases hB.own k h with h | h
    ·exact ownO k h
    ·exact .inr (Nat.le_trans hsz h)
   ·exact h.1
  ·rcases hB.new k h with h | h | h
   ·exact .inl h
   ·exact .inr (ownO k h)
   ·exact .inr (.inr (Nat.le_trans hsz h))
end

theorem z9h {F:Frz} {w w':World} {G:List Nat} (hw:∀ k,k<w.heap.size→k∉G→w'.heap[k]?=w.heap[k]?):∀ (t:Ty) (x:L t) (q:List Step) (v:Ty) (z y:L v) (x':L t),zr t x q=some ⟨v,z⟩→zg t x q v y=some x'→z8 v y=z8 v z→(z6 t x).Nodup→(∀ g∈G,g∈z6 v z)→holds F w t x →
  z8 t x'=z8 t x∧(holds F w' v y→holds F w' t x')∧(plain w t x→plain w' v y→plain w' t x')∧∃ A C,z6 t x=A++z6 v z++C∧z6 t x'=A++z6 v y++C
 | .sl e t,x,q,v,z,y,x',hs,h,hc,hn,hg,hh=>by
  match q with
  | [] =>
   cases hs
   obtain ⟨_,he⟩:=z7g h
   subst he
   exact ⟨hc,fun h=>h,fun _ h=>h,[],[],by simp,by simp⟩
  | .f _::_=>cases h
  | .u::_=>cases h
  | .ix n::q =>
   obtain ⟨x0,hx0,h⟩:=Option.bind_eq_some_iff.1 h
   obtain ⟨x0',hx0',rfl⟩:=Option.map_eq_some_iff.1 h
   obtain ⟨x1,hx1,hs⟩:=Option.bind_eq_some_iff.1 hs
   rw [hx0] at hx1
   cases hx1
   obtain ⟨hlt,hxe⟩:=List.getElem?_eq_some_iff.1 hx0
   have hsplit:x.2.2=x.2.2.take n++x0::x.2.2.drop (n+1):=by
    rw [← hxe,← List.drop_eq_getElem_cons hlt,List.take_append_drop]
   have hset:x.2.2.set n x0'=x.2.2.take n++x0'::x.2.2.drop (n+1):=by rw [List.set_eq_take_append_cons_drop,if_pos hlt]
   have hb:z6 (.sl e t) x=x.1.toList++((x.2.2.take n).flatMap (z6 t))++z6 t x0++(x.2.2.drop (n+1)).flatMap (z6 t):=by
    simp only [z6]
    conv=>lhs; rw [hsplit]
    simp [List.append_assoc]
   have hlt':∀ k∈z6 (.sl e t) x,k<w.heap.size:=z1d hh
   rw [hb] at hn hlt'
   obtain ⟨n1,n2,n3⟩:=List.nodup_append.1 hn
   obtain ⟨n4,n5,n6⟩:=List.nodup_append.1 n1
   obtain ⟨i1,i2,i3,A,C,i4,i5⟩:=z9h hw t x0 q v z y x0' hs hx0' hc n5 hg (hh.2 x0 (List.mem_of_getElem? hx0))
   have hg0:∀ g∈G,g∈z6 t x0:=fun g h=>by rw [i4]; simp [hg g h]
   have away1:∀ y∈x.2.2.take n,∀ k∈z6 t y,w'.heap[k]?=w.heap[k]?:=fun y hy k hk=>by
    have hm:k∈(x.2.2.take n).flatMap (z6 t):=List.mem_flatMap.2 ⟨y,hy,hk⟩
    exact hw k (hlt' k (by simp only [List.mem_append]; exact .inl (.inl (.inr hm)))) fun e=>n6 k (List.mem_append.2 (.inr hm)) k (hg0 k e) rfl
   have away2:∀ y∈x.2.2.drop (n+1),∀ k∈z6 t y,w'.heap[k]?=w.heap[k]?:=fun y hy k hk=>by
    have hm:k∈(x.2.2.drop (n+1)).flatMap (z6 t):=List.mem_flatMap.2 ⟨y,hy,hk⟩
    exact hw k (hlt' k (by simp only [List.mem_append]; exact .inr hm)) fun e=>n3 k (List.mem_append.2 (.inr (hg0 k e))) k hm rfl
   have away0:∀ b,x.1=some b→w'.heap[b]?=w.heap[b]?:=fun b hb=>by
    have hm:b∈x.1.toList:=by rw [hb]; simp
    exact hw b (hlt' b (by simp only [List.mem_append]; exact .inl (.inl (.inl hm)))) fun e=>n6 b (List.mem_append.2 (.inl hm)) b (hg0 b e) rfl
   refine ⟨by simp [z8],fun hy=>⟨?_,?_⟩,fun hp hy=>⟨?_,?_⟩,x.1.toList++(x.2.2.take n).flatMap (z6 t)++A,C++(x.2.2.drop (n+1)).flatMap (z6 t),?_,?_⟩
   ·have h1:=hh.1
    simp only []
    cases hx:x.1 with
    | none=>rw [hx] at h1; rw [h1.1] at hlt; simp at hlt
    | some b =>
     rw [hx] at h1
     obtain ⟨cur,fz,k1,k2,k3,k4,k5,k6⟩:=h1
     refine ⟨cur,fz,(away0 b hx).trans k1,by rw [List.length_set]; exact k2,k3,k4,?_,by rw [List.length_set]; exact k6⟩
     rw [List.length_set,k5,hset]
     conv=>lhs; rw [hsplit]
     simp [i1]
   ·intro y' hy'
    have hy':y'∈x.2.2.set n x0':=hy'
    rw [hset] at hy'
    rcases List.mem_append.1 hy' with hm | hm
    ·exact z1t (fun k hk=>away1 y' hm k hk) (hh.2 y' (List.mem_of_mem_take hm))
    ·rcases List.mem_cons.1 hm with rfl | hm
     ·exact i2 hy
     ·exact z1t (fun k hk=>away2 y' hm k hk) (hh.2 y' (List.mem_of_mem_drop hm))
   ·intro b hb
    obtain ⟨cur,e',k1,k2⟩:=hp.1 b hb
    exact ⟨cur,e',(away0 b hb).trans k1,k2⟩
   ·intro y' hy'
    have hy':y'∈x.2.2.set n x0':=hy'
    rw [hset] at hy'
    rcases List.mem_append.1 hy' with hm | hm
    ·exact z1u (fun k hk=>away1 y' hm k hk) (hp.2 y' (List.mem_of_mem_take hm))
    ·rcases List.mem_cons.1 hm with rfl | hm
     ·exact i3 (hp.2 x0 (List.mem_of_getElem? hx0)) hy
     ·exact z1u (fun k hk=>away2 y' hm k hk) (hp.2 y' (List.mem_of_mem_drop hm))
   ·rw [hb,i4]; simp [List.append_assoc]
   ·simp only [z6]
    rw [hset]
    simp [i5,List.append_assoc]
 | .st t,x,q,v,z,y,x',hs,h,hc,hn,hg,hh=>by
  match q with
  | [] =>
   cases hs
   have:=(z3e (.st t) x y).symm.trans h
   cases this
   exact ⟨hc,fun h=>h,fun _ h=>h,[],[],by simp,by simp⟩
  | .u::q=>exact z9h hw t x q v z y x' hs h hc hn hg hh
  | .ix n::q=>exact z9h hw t x (.ix n::q) v z y x' hs h hc hn hg hh
  | .f b::q=>exact z9h hw t x (.f b::q) v z y x' hs h hc hn hg hh
 | .pr a b,x,q,v,z,y,x',hs,h,hc,hn,hg,hh=>by
  match q with
  | [] =>
   cases hs
   have:=(z3e (.pr a b) x y).symm.trans h
   cases this
   exact ⟨hc,fun h=>h,fun _ h=>h,[],[],by simp,by simp⟩
  | .ix _::_=>cases h
  | .u::_=>cases h
  | .f false::q =>
   obtain ⟨p,hp,rfl⟩:=Option.map_eq_some_iff.1 h
   simp only [z6] at hn
   obtain ⟨n1,n2,n3⟩:=List.nodup_append.1 hn
   obtain ⟨i1,i2,i3,A,C,i4,i5⟩:=z9h hw a x.1 q v z y p hs hp hc n1 hg hh.1
   have hg0:∀ g∈G,g∈z6 a x.1:=fun g h=>by rw [i4]; simp [hg g h]
   have away:∀ k∈z6 b x.2,w'.heap[k]?=w.heap[k]?:=fun k hk=>hw k (z1d hh.2 k hk) fun e=>n3 k (hg0 k e) k hk rfl
   exact ⟨by simp [z8,i1],fun hy=>⟨i2 hy,z1t away hh.2⟩,fun hp hy=>⟨i3 hp.1 hy,z1u away hp.2⟩,A,C++z6 b x.2,by simp [z6,i4],by simp [z6,i5]⟩
  | .f true::q =>
   obtain ⟨p,hp,rfl⟩:=Option.map_eq_some_iff.1 h
   simp only [z6] at hn
   obtain ⟨n1,n2,n3⟩:=List.nodup_append.1 hn
   obtain ⟨i1,i2,i3,A,C,i4,i5⟩:=z9h hw b x.2 q v z y p hs hp hc n2 hg hh.2
   have hg0:∀ g∈G,g∈z6 b x.2:=fun g h=>by rw [i4]; simp [hg g h]
   have away:∀ k∈z6 a x.1,w'.heap[k]?=w.heap[k]?:=fun k hk=>hw k (z1d hh.1 k hk) fun e=>n3 k hk k (hg0 k e) rfl
   exact ⟨by simp [z8,i1],fun hy=>⟨z1t away hh.1,i2 hy⟩,fun hp hy=>⟨z1u away hp.1,i3 hp.2 hy⟩,z6 a x.1++A,C,by simp [z6,i4],by simp [z6,i5]⟩
 | .int _,x,q,v,z,y,x',hs,h,hc,hn,hg,hh=>by match q with | []=>cases hs; have:=(z3e (.int _) x y).symm.trans h; cases this; exact ⟨hc,fun h=>h,fun _ h=>h,[],[],rfl,rfl⟩ | _::_=>cases hs
 | .bool,x,q,v,z,y,x',hs,h,hc,hn,hg,hh=>by match q with | []=>cases hs; have:=(z3e .bool x y).symm.trans h; cases this; exact ⟨hc,fun h=>h,fun _ h=>h,[],[],rfl,rfl⟩ | _::_=>cases hs
 | .str,x,q,v,z,y,x',hs,h,hc,hn,hg,hh=>by match q with | []=>cases hs; have:=(z3e .str x y).symm.trans h; cases this; exact ⟨hc,fun h=>h,fun _ h=>h,[],[],rfl,rfl⟩ | _::_=>cases hs
 | .un,x,q,v,z,y,x',hs,h,hc,hn,hg,hh=>by match q with | []=>cases hs; have:=(z3e .un x y).symm.trans h; cases this; exact ⟨hc,fun h=>h,fun _ h=>h,[],[],rfl,rfl⟩ | _::_=>cases hs
 | .rd t,x,q,v,z,y,x',hs,h,hc,hn,hg,hh=>by match q with | []=>cases hs; have:=(z3e (.rd t) x y).symm.trans h; cases this; exact ⟨hc,fun h=>h,fun _ h=>h,[],[],rfl,rfl⟩ | _::_=>cases hs
theorem z9i {w:World}:∀ {t:Ty} {x:L t} {p:List Step} {y:Loc},zr t x p=some y→(z6 y.1 y.2).Sublist (z6 t x)∧(plain w t x→plain w y.1 y.2)
 | .sl e t,x,p,y,h=>by
  match p with
  | []=>cases h; exact ⟨List.Sublist.refl _,fun h=>h⟩
  | .f _::_=>cases h
  | .u::_=>cases h
  | .ix n::p =>
   obtain ⟨z,hz,h⟩:=Option.bind_eq_some_iff.1 h
   obtain ⟨h1,h2⟩:=z9i (w:=w) h
   obtain ⟨hlt,hxe⟩:=List.getElem?_eq_some_iff.1 hz
   refine ⟨?_,fun hp=>h2 (hp.2 z (List.mem_of_getElem? hz))⟩
   have hsplit:x.2.2=x.2.2.take n++z::x.2.2.drop (n+1):=by rw [← hxe,← List.drop_eq_getElem_cons hlt,List.take_append_drop]
   have hb:z6 (.sl e t) x=(x.1.toList++(x.2.2.take n).flatMap (z6 t))++(z6 t z++(x.2.2.drop (n+1)).flatMap (z6 t)):=by
    simp only [z6]
    conv=>lhs; rw [hsplit]
    simp [List.append_assoc]
   rw [hb]
   exact h1.trans ((List.sublist_append_left _ _).trans (List.sublist_append_right _ _))
 | .st t,x,p,y,h=>by
  match p with
  | []=>cases h; exact ⟨List.Sublist.refl _,fun h=>h⟩
  | .u::p=>exact z9i (t:=t) (x:=x) (p:=p) h
  | .ix n::p=>exact z9i (t:=t) (x:=x) (p:=.ix n::p) h
  | .f b::p=>exact z9i (t:=t) (x:=x) (p:=.f b::p) h
 | .pr a b,x,p,y,h=>by
  match p with
  | []=>cases h; exact ⟨List.Sublist.refl _,fun h=>h⟩
  | .ix _::_=>cases h
  | .u::_=>cases h
  | .f false::p =>
   obtain ⟨h1,h2⟩:=z9i (w:=w) (t:=a) (x:=x.1) (p:=p) h
   exact ⟨h1.trans (List.sublist_append_left _ _),fun hp=>h2 hp.1⟩
  | .f true::p =>
   obtain ⟨h1,h2⟩:=z9i (w:=w) (t:=b) (x:=x.2) (p:=p) h
   exact ⟨h1.trans (List.sublist_append_right _ _),fun hp=>h2 hp.2⟩
 | .int _,x,p,y,h=>by match p with | []=>cases h; exact ⟨List.Sublist.refl _,fun h=>h⟩ | _::_=>cases h
 | .bool,x,p,y,h=>by match p with | []=>cases h; exact ⟨List.Sublist.refl _,fun h=>h⟩ | _::_=>cases h
 | .str,x,p,y,h=>by match p with | []=>cases h; exact ⟨List.Sublist.refl _,fun h=>h⟩ | _::_=>cases h
 | .un,x,p,y,h=>by match p with | []=>cases h; exact ⟨List.Sublist.refl _,fun h=>h⟩ | _::_=>cases h
 | .rd t,x,p,y,h=>by match p with | []=>cases h; exact ⟨List.Sublist.refl _,fun h=>h⟩ | _::_=>cases h

section
variable {P : Program} {E E' : Env} {w0 : World} {ok O : Nat → Prop} {σ σ' : St} {tm : Array Value} {w w' : World} {M M' : Map} {a : Act} {R0 : Type} {res : R0}

theorem Rep.env (R:Rep E w0 ok O σ tm w M) (h1:∀ t,(E'.tyOf t).sz=(E.tyOf t).sz) (h2:E'.pins=E.pins) (h3:E'.pinB=E.pinB):Rep E' w0 ok O σ tm w M where
 slots:=R.slots
 rows:=R.rows
 boxes:=fun i b h=>by
  obtain ⟨cs,g1,g2,g3⟩:=R.boxes i b h
  exact ⟨cs,g1,g2,fun hc=>by rw [h1]; exact g3 hc⟩
 rr:=R.rr
 bb:=R.bb
 rb:=R.rb
 ownR:=R.ownR
 ownB:=R.ownB
 okB:=R.okB
 liveS:=R.liveS
 liveB:=R.liveB
 kept:=R.kept
 pin:=by rw [h2]; exact R.pin
 pinB:=by rw [h3]; exact R.pinB
theorem Rep.slotsTo (R:Rep E w0 ok O σ tm w M) {tm':Array Value} {sl:List (Nat×SV)} (h:∀ s v,lk sl s=some v→(∃ u,tm'[s]?=some u∧zi w0 ok M v u)∧Live σ v):Rep E w0 ok O ⟨sl,σ.rows,σ.bx⟩ tm' w M where
 slots:=fun s v hv=>(h s v hv).1
 rows:=R.rows
 boxes:=R.boxes
 rr:=R.rr
 bb:=R.bb
 rb:=R.rb
 ownR:=R.ownR
 ownB:=R.ownB
 okB:=R.okB
 liveS:=fun s v hv=>⟨(h s v hv).2.rows,(h s v hv).2.boxes⟩
 liveB:=fun i b hb=>⟨(R.liveB i b hb).rows,(R.liveB i b hb).boxes⟩
 kept:=R.kept
 pin:=R.pin
 pinB:=R.pinB

theorem z2i.up {b c:Bool} {w0 w1:World} {ok O ok1 O1:Nat→Prop} (h:z2i b w0 ok O w1 ok1 O1) (hb:b=false∨c=true):z2i c w0 ok O w1 ok1 O1:=by
 rcases h with h | ⟨h1,h2⟩
 ·exact .inl h
 ·exact .inr ⟨hb.elim (fun e=>by rw [e] at h1; cases h1) id,h2⟩
def z17 (P:Program) [Glob P] (ti:List TI) (g:FuncId) (c:OC):Prop:=c.hi.ok=true∧∀ (E:Env),(∀ t,(E.tyOf t).sz=(z14 ti t).sz)→∀ x y,c.F x=some y→∀ (w:World) (ok O:Nat→Prop) (M:Map) (vs:List Value),vs.length=c.hi.sl.length→z5c P w O →
 Rep E w ok O (c.hi.fill x) vs.toArray w M→z25 P g vs.toArray w fun v w'=>∃ M' w2 ok2 O2,z2i c.ch w ok O w2 ok2 O2∧Rep E w2 ok2 O2 (c.ho.fill y) #[v] w' M'
theorem zz4 {ti ti':List TI} (h:ti.map (fun i=>i.ty.sz)=ti'.map (fun i=>i.ty.sz)) (t:TypeId):(z14 ti t).sz=(z14 ti' t).sz:=by
 have key:∀ l:List TI,(z14 l t).sz=((l.map (fun i=>i.ty.sz))[t]?).getD 0:=fun l=>by
  unfold z14
  rw [List.getElem?_map]
  cases l[t]? <;> rfl
 rw [key,key,h]
theorem z17.to {P:Program} [Glob P] {ti ti':List TI} {g:FuncId} {c:OC} (h:z17 P ti g c) (hs:ti.map (fun i=>i.ty.sz)=ti'.map (fun i=>i.ty.sz)):z17 P ti' g c :=
 ⟨h.1,fun E hE=>h.2 E fun t=>(hE t).trans (zz4 hs t).symm⟩

theorem zjs (R:Rep E w0 ok O σ tm w M) {h:Head} (hk:h.ok=true) {k:h.T→Option R0} (hg:h.raw σ k=some res):∃ x,k x=some res∧Rep E w0 ok O (h.fill x) tm w M:=by
 unfold Head.raw at hg
 obtain ⟨x,hg,hx⟩:=zfv hg
 obtain ⟨y,hg,hy⟩:=zfw hg
 obtain ⟨z,hg,hz⟩:=zfx hg
 simp only [Head.ok,Bool.and_eq_true,List.all_eq_true] at hk
 refine ⟨(x,y,z),hg,R.le ⟨fun s v hv=>hx s v (z13 hv),fun s v hv=>hy s v (z13 hv),fun s v hv=>hz s v (z13 hv)⟩ (fun s v hv=>?_) (fun i b hb=>?_)⟩
 ·obtain ⟨sk,y',h1,rfl⟩:=zfy (z13 hv)
  exact zbc (hk.1 _ h1)
 ·obtain ⟨t,sk,y',h1,rfl⟩:=zfz (z13 hb)
  exact zbc (hk.2 _ h1)

theorem zz5 {l:List SV} {c:OC} {j:Nat} {q:List Step} {rest:List SV} (h:zi6 l c=some (j,q,rest)):(∃ s q',q=s::q')∧l=.ref j q::rest∧rest.all SV.isV=true:=by
 unfold zi6 at h
 split at h
 ·rename_i j' s q' rest' i' l' _
  cases hv:rest'.all SV.isV <;> rw [hv] at h <;> cases h
  exact ⟨⟨_,_,rfl⟩,rfl,hv⟩
 ·cases h
def zz6 (x:Loc):Map:=⟨fun _=>x,fun _=>0,fun _=>0,fun _=>0⟩
def zjt (E:Env) (x:Loc):Env:={ E with pins:=fun _=>hdL x }
theorem zz7 (R:Rep E w0 ok O σ tm w M) {j:Nat} {q:List Step} {r:Row} (hr:lk σ.rows j=some r) {l0:L (.sl r.e r.t)} (hl0:M.loc j=⟨.sl r.e r.t,l0⟩) {e:TypeId} {u:Ty} {z0:L (.sl e u)} (hz:zr (.sl r.e r.t) l0 q=some ⟨.sl e u,z0⟩) (hrz:r.z=false)
  {rest:List SV} {vs:List Value} (hl:rest.length+1=vs.length) (hs:∀ (k:Nat) s v,(SV.ref j q::rest)[k]?=some s→vs[k]?=some v→zi w0 ok M s v) (hv:rest.all SV.isV=true) :
  Rep (zjt E ⟨.sl e u,z0⟩) w ok (fun k=>k∈z6 (.sl e u) z0) ⟨(0,.ref PIN [])::z6z rest 1,[(PIN,⟨e,u,erase (.sl e u) z0,false⟩)],[]⟩ vs.toArray w (zz6 ⟨.sl e u,z0⟩):=by
 obtain ⟨l0',g1,g2,g3,g4,g5⟩:=R.rows j r hr
 rw [hl0] at g1
 cases g1
 obtain ⟨k1,k2⟩:=subL_holds hz g3
 obtain ⟨k3,k4⟩:=z9i (w:=w) hz
 have one:∀ i r',lk [(PIN,(⟨e,u,erase (.sl e u) z0,false⟩:Row))] i=some r'→i=PIN∧r'=(⟨e,u,erase (.sl e u) z0,false⟩:Row):=fun i r' h=>z3m h
 have notOk:∀ k,k∈z6 (.sl e u) z0→¬ ok k:=fun k h=>(R.ownR j ⟨r,hr⟩ k (by rw [hl0]; exact k2 k h)).1
 have slot:∀ s v,lk ((0,SV.ref PIN [])::z6z rest 1) s=some v→(s=0∧v=.ref PIN [])∨∃ k t x,s=k+1∧rest[k]?=some v∧v=.val t x:=fun s v h=>by
  rw [zn] at h
  split at h
  ·rename_i hh; cases h; exact .inl ⟨hh.symm,rfl⟩
  ·obtain ⟨k,e1,e2⟩:=zg9 h
   have:=List.all_eq_true.1 hv v (List.mem_of_getElem? e2)
   cases v <;> first | (cases this; done) | exact .inr ⟨k,_,_,by omega,e2,rfl⟩
 constructor
 ·intro s v h
  rcases slot s v h with ⟨rfl,rfl⟩ | ⟨k,t,x,rfl,e2,rfl⟩
  ·have hlt:0<vs.length:=by omega
   refine ⟨vs[0],by simp [hlt],?_⟩
   obtain ⟨cs,⟨e',t',l',h1,h2⟩,h3⟩:=hs 0 _ vs[0] rfl (List.getElem?_eq_getElem hlt)
   rw [hl0] at h1
   have h1:=hz.symm.trans h1
   cases h1
   exact ⟨cs,⟨e,u,z0,z2y _ _,h2⟩,h3⟩
  ·have hlt:k+1<vs.length:=by have:=(List.getElem?_eq_some_iff.1 e2).1; omega
   refine ⟨vs[k+1],by simp [hlt],?_⟩
   obtain ⟨cs,h1,h2⟩:=hs (k+1) _ vs[k+1] (by simpa using e2) (List.getElem?_eq_getElem hlt)
   exact ⟨cs,R.rd h1,h2⟩
 ·intro i r' h
  obtain ⟨_,rfl⟩:=one i r' h
  exact ⟨z0,rfl,rfl,z5v (fun _ _ _ h=>R.rd h) k1,k3.nodup g4,fun _=>k4 (g5 hrz)⟩
 ·intro i b h; cases h
 ·rintro i i' hij ⟨r1,h1⟩ ⟨r2,h2⟩
  exact absurd ((one _ _ h1).1.trans (one _ _ h2).1.symm) hij
 ·rintro i i' hij ⟨b,hb⟩; cases hb
 ·rintro i i' _ ⟨b,hb⟩; cases hb
 ·rintro i _ k hk
  exact ⟨notOk k hk,.inl hk⟩
 ·rintro i ⟨b,hb⟩; cases hb
 ·exact fun k hk=>⟨R.ok_lt hk,fun h=>notOk k h hk⟩
 ·intro s v h
  rcases slot s v h with ⟨rfl,rfl⟩ | ⟨k,t,x,rfl,e2,rfl⟩
  ·refine ⟨fun i hi=>?_,fun i hi=>by simp [SV.boxes] at hi⟩
   simp only [SV.roots,List.mem_singleton] at hi
   subst hi
   exact ⟨_,by rw [zn,if_pos rfl]⟩
  ·exact ⟨fun i hi=>by simp [SV.roots] at hi,fun i hi=>by simp [SV.boxes] at hi⟩
 ·intro i b h; cases h
 ·exact Kept.refl _ _
 ·rintro i hi ⟨r',h⟩
  exact zoo rfl
 ·rintro i hi ⟨b,hb⟩; cases hb
theorem zz8 [Glob P] (G:z5c P w0 O) (R:Rep E w0 ok O σ tm w M) {j:Nat} {r:Row} (hr:lk σ.rows j=some r) {bs:List Nat} (hb:∀ k∈bs,k∈z6 (M.loc j).1 (M.loc j).2):z5c P w (fun k=>k∈bs):=by
 refine ⟨G.now R.kept,fun k hk hO=>?_⟩
 have hlt:=Glob.lt w0 G.1 k hk
 rcases (R.ownR j ⟨r,hr⟩ k (hb k hO)).2 with h | h
 ·exact G.2 k hk h
 ·omega
theorem zz9 (R:Rep E w0 ok O σ tm w M) {j:Nat} {q:List Step} {s0:Step} {q':List Step} (hq:q=s0::q') {r:Row} (hr:lk σ.rows j=some r) {l0:L (.sl r.e r.t)} (hl0:M.loc j=⟨.sl r.e r.t,l0⟩) {e:TypeId} {u:Ty} {z0:L (.sl e u)} (hz:zr (.sl r.e r.t) l0 q=some ⟨.sl e u,z0⟩) (hrz:r.z=false)
  {τ:St} {v:Value} (R':Rep (zjt E ⟨.sl e u,z0⟩) w ok (fun k=>k∈z6 (.sl e u) z0) τ #[v] w' M') {dst:Option Tmp} (hin:inB dst tm) {k:St→Option R0} (h:zi7 σ dst j r q e u τ k=some res) :
  ∃ (σ'':St) (M'':Map),k (σ''.put dst (match lk τ.sl 0 with | some s=>s | none=>.un))=some res∧Rep E w0 ok O (σ''.put dst (match lk τ.sl 0 with | some s=>s | none=>.un)) (z3l tm dst v) w' M'':=by
 obtain ⟨l0',g1,g2,g3,g4,g5⟩:=R.rows j r hr
 have g1:=hl0.symm.trans g1
 cases g1
 obtain ⟨_,k2⟩:=subL_holds hz g3
 unfold zi7 at h
 split at h
 rotate_left
 ·cases h
 rename_i t x r' hs0 hr'
 obtain ⟨re,rt,rx,rz⟩:=r'
 cases rz
 rotate_left
 ·cases h
 simp only [cond_false] at h
 unfold zf at h
 split at h
 rotate_left
 ·cases h
 rename_i he
 cases he
 obtain ⟨l1,f1,f2,f3,f4,f5⟩:=R'.rows PIN _ hr'
 simp only at f1 f2 f3 f4 f5
 have f5:=f5 trivial
 simp only at h
 have h:z5i (.sl r.e r.t) r.xs q (.sl e u) rx (fun xs=>k (((σ.killIn j (ixs q-1)).setRow j ⟨r.e,r.t,xs,r.z⟩).put dst (.val t x)))=some res:=h
 rw [← g2,← f2,z7h] at h
 obtain ⟨x',hx',h⟩:=Option.bind_eq_some_iff.1 h
 have hc:z8 (.sl e u) l1=z8 (.sl e u) z0:=by
  have:=R'.pin PIN (Nat.le_refl _) ⟨_,hr'⟩
  rw [f1] at this
  exact this
 obtain ⟨c1,c2,c3,A,C,c4,c5⟩:=z9h (G:=z6 (.sl e u) z0) (fun k hk hn=>R'.kept.block k hk hn) (.sl r.e r.t) l0 q (.sl e u) z0 l1 x' hz hx' hc g4 (fun _ h=>h) g3
 have own1:∀ k∈z6 (.sl e u) l1,¬ ok k∧(k∈z6 (.sl e u) z0∨w.heap.size≤k):=fun k hk=>R'.ownR PIN ⟨_,hr'⟩ k (by rw [f1]; exact hk)
 have lt0:∀ k∈z6 (.sl r.e r.t) l0,k<w.heap.size:=z1d g3
 have hix:ixs q-1<ixs q:=by
  subst hq
  cases s0 with
  | ix n=>show ixs q'+1-1<ixs q'+1; omega
  | f b=>cases hz
  | u=>cases hz
 obtain ⟨Rk,kS,kB⟩:=R.killIn j (ixs q-1)
 have hU:=Rk.upd (j:=j) (r:=r) hr (l:=l0) (l':=x') hl0 (bs:=(z6 (.sl e u) l1).filter fun k=>decide (w.heap.size≤k)) (w':=w')
  ⟨R'.kept.os,R'.kept.tape,R'.kept.output,R'.kept.size,fun k hk hn=>R'.kept.block k hk fun h=>hn (k2 k h)⟩ (c2 (z5v (fun _ _ _ h=>h.move fun k hk=>(R.ok_kept hk).symm) f3)) ?_ (fun _=>c3 (g5 hrz) f5) c1 ?_ ?_ ?_ ?_
 ·refine ⟨(σ.killIn j (ixs q-1)).setRow j ⟨r.e,r.t,erase (.sl r.e r.t) x',r.z⟩,_,?_,Rep.putV hU ?_ ?_ hin⟩
  ·rw [hs0]; exact h
  ·rw [hs0]
   obtain ⟨y,y1,cs,y2,y3⟩:=R'.slots 0 _ hs0
   have y1:y=v:=by simpa using y1.symm
   subst y1
   exact ⟨cs,Rd.move (fun k hk=>(R.ok_kept hk).symm) y2,y3⟩
  ·rw [hs0]
   exact ⟨fun i hi=>by simp [SV.roots] at hi,fun i hi=>by simp [SV.boxes] at hi⟩
 ·rw [c5]
  rw [c4] at g4 lt0
  obtain ⟨n1,n2,n3⟩:=List.nodup_append.1 g4
  obtain ⟨n4,n5,n6⟩:=List.nodup_append.1 n1
  refine List.nodup_append.2 ⟨List.nodup_append.2 ⟨n4,f4,fun a ha b hb e=>?_⟩,n2,fun a ha b hb e=>?_⟩
  ·subst e
   rcases (own1 a hb).2 with h1 | h1
   ·exact n6 a ha a h1 rfl
   ·have:=lt0 a (by simp [ha]); omega
  ·subst e
   rcases List.mem_append.1 ha with ha | ha
   ·exact n3 a (List.mem_append.2 (.inl ha)) a hb rfl
   ·rcases (own1 a ha).2 with h1 | h1
    ·exact n3 a (List.mem_append.2 (.inr h1)) a hb rfl
    ·have:=lt0 a (by simp [hb]); omega
 ·intro a ha
  rw [c5] at ha
  rcases List.mem_append.1 ha with ha | ha
  ·rcases List.mem_append.1 ha with ha | ha
   ·exact .inl (by rw [c4]; simp [ha])
   ·rcases (own1 a ha).2 with h1 | h1
    ·exact .inl (k2 a h1)
    ·exact .inr (List.mem_filter.2 ⟨ha,decide_eq_true h1⟩)
  ·exact .inl (by rw [c4]; simp [ha])
 ·have big:∀ a∈(z6 (.sl e u) l1).filter (fun k=>decide (w.heap.size≤k)),w.heap.size≤a:=fun a ha=>of_decide_eq_true (List.mem_filter.1 ha).2
  refine ⟨f4.filter _,fun a ha=>⟨(own1 a (List.mem_filter.1 ha).1).1,.inr (Nat.le_trans R.kept.size (big a ha))⟩,fun i hi a ha hb=>?_,fun i hi ha=>?_⟩
  ·obtain ⟨r1,h1⟩:=hi
   obtain ⟨l2,d1,_,d2,_⟩:=Rk.rows i r1 h1
   rw [d1] at hb
   have:=z1d d2 a hb
   have:=big a ha
   omega
  ·obtain ⟨b,h1⟩:=hi
   obtain ⟨cs,_,d1,_⟩:=Rk.boxes i b h1
   have:=(Array.getElem?_eq_some_iff.1 d1).1
   have:=big _ ha
   omega
 ·exact fun s v hv p hp=>z3o _ l0 q _ l1 x' p hx' (Nat.lt_of_le_of_lt (kS s v hv p hp) hix)
 ·exact fun i b hb p hp=>z3o _ l0 q _ l1 x' p hx' (Nat.lt_of_le_of_lt (kB i b hb p hp) hix)
theorem zoq {w0:World} {ok:Nat→Prop} {M:Map}:∀ {t:Ty} {x:t.T} {cs:List Value},Rd w0 ok t x cs→za w0 ok M (zi3 t x) cs
 | .un,_,_,h=>h
 | .pr a b,x,cs,h=>by
  obtain ⟨c1,c2,h1,h2,h3⟩:=h
  exact ⟨c1,c2,h1,h2,zoq h3⟩
 | .int _,_,_,h=>h
 | .bool,_,_,h=>h
 | .str,_,_,h=>h
 | .sl _ _,_,_,h=>h
 | .st _,_,_,h=>h
 | .ptr _,_,_,h=>h
 | .fn _ _,_,_,h=>h
 | .fs _,_,_,h=>h
 | .rd _,_,_,h=>h
theorem zza (R:Rep E w0 ok O σ tm w M) {a:Act} (hat:a.tmps=tm) {f:Operand} {g:FuncId} {cs:SV} (h:zi4 σ f=some (.clo g cs)):∃ caps:Array Value,a.eval f=.func (.func g) #[] caps∧za w0 ok M cs caps.toList:=by
 unfold zi4 at h
 split at h
 ·rename_i s hs
  have h:s.asClo=.clo g cs:=Option.some.inj h
  obtain ⟨h1,_⟩:=zz R hat hs
  unfold SV.asClo at h
  split at h
  ·rename_i g' ct x
   cases h
   obtain ⟨q,⟨caps,hc,hcr⟩,hw⟩:=h1
   subst hc
   refine ⟨caps,?_,zoq hcr⟩
   rcases hw with ⟨h5,_⟩ | ⟨_,h5⟩
   ·cases h5
   ·simp only [List.cons.injEq,and_true] at h5; exact h5.symm
  ·subst h
   obtain ⟨q,⟨caps,hc,hcr⟩,hw⟩:=h1
   subst hc
   refine ⟨caps,?_,hcr⟩
   rcases hw with ⟨h5,_⟩ | ⟨_,h5⟩
   ·cases h5
   ·simp only [List.cons.injEq,and_true] at h5; exact h5.symm
 ·cases h

theorem zzb [Glob P] (G:z5c P w0 O) (R:Rep E w0 ok O σ tm w M) {l:List SV} {ids bids:List Nat} (H:InOK σ l ids bids):z5c P w (Own M ids bids):=by
 refine ⟨G.now R.kept,fun k hb hO=>?_⟩
 have hlt:=Glob.lt w0 G.1 k hb
 rcases hO with ⟨i,hi,hk⟩ | ⟨b,hbi,rfl⟩
 ·rcases (R.ownR i (H.rows i hi) k hk).2 with h | h
  ·exact G.2 k hb h
  ·omega
 ·rcases (R.ownB b (let ⟨x,hx,_⟩:=H.bx b hbi; ⟨x,hx⟩)).2 with h | h
  ·exact G.2 _ hb h
  ·omega
theorem zzc (R:Rep E w0 ok O σ a.tmps w M) {d:Nat} {args:List Operand} {ts:List TypeId} {σ':St} {l:List SV} (h:zi5 E σ d args ts=some (σ',l)) :
  ∃ M',Rep E w0 ok O σ' a.tmps w M'∧l.length=args.length∧∀ (i:Nat) x s,args[i]?=some x→l[i]?=some s→zi w0 ok M' s (a.eval x):=by
 unfold zi5 at h
 split at h
 ·rename_i l0 t ts0
  split at h
  ·rename_i e e' u b hti
   cases hpin:Nat.blt (5000000+32*d) PIN <;> rw [hpin] at h
   ·cases h
   ·simp only [cond_true] at h
    split at h
    ·rename_i ss hss
     cases h
     have R':=R.addOwn (5000000+32*d) (Nat.le_of_ble_eq_true hpin) (e:=e) (t:=u) (none,0,[]) ⟨⟨rfl,rfl⟩,by simp⟩ ⟨fun b hb=>(nomatch hb),by simp⟩ (by simp only [z6]; exact Free.nil)
     obtain ⟨e1,e2⟩:=z7b R' rfl hss
     refine ⟨_,R',by simp [e1],fun i x s hx hs=>?_⟩
     cases i with
     | zero =>
      simp at hx hs
      subst hx; subst hs
      exact ⟨[.slice none 0 0],⟨e,u,(none,0,[]),(congrArg (fun z:Loc=>zr z.1 z.2 []) (z1n M.loc (5000000+32*d) ⟨.sl e u,(none,0,[])⟩)).trans rfl,rfl⟩,.inr ⟨rfl,rfl⟩⟩
     | succ i =>
      simp only [List.getElem?_cons_succ] at hx hs
      exact (e2 i x s hx hs).1
    ·cases h
  ·cases h
 ·split at h
  ·rename_i ss hss
   cases h
   obtain ⟨e1,e2⟩:=z7b R rfl hss
   exact ⟨M,R,e1,fun i x s hx hs=>(e2 i x s hx hs).1⟩
  ·cases h
theorem zgc [Glob P] (H:∀ s g c,E.opn s=some (g,c)→z17 P E.ti g c) (G:z5c P w0 O):z2l P E w0 O:=by
 intro w1 O1 hm R0 res ok σ a w M o g c f args ts k ho R hop hin hd h next Q hn'
 have G:z5c P w1 O1:=⟨G.now hm.1,fun k hb ho=>(hm.2 k ho).elim (G.2 k hb) fun hl=>absurd (Glob.lt w0 G.1 k hb) (Nat.not_lt.2 hl)⟩
 obtain ⟨hiok,HO⟩:=H _ _ _ ho
 have R1:=R.clean (zp o)
 unfold zcl at h
 generalize σ.clean (zp o)=σ0 at R1 h
 split at h
 ·rename_i σ1 l hl
  obtain ⟨M1,R1,e1,e2⟩:=zzc (a:=a) R1 hl
  split at h
  rotate_left
  ·cases h
  rename_i g' cs hf
  cases hk:(!(Nat.beq g g'&&cs.caps.all SV.cap1)) <;> rw [hk] at h
  ·simp only [cond_false] at h
   simp only [Bool.not_eq_false',Bool.and_eq_true] at hk
   have hgg:=Nat.eq_of_beq_eq_true hk.1
   subst hgg
   obtain ⟨caps,hv,hcr⟩:=zza R1 rfl hf
   have hrun:(execOp a.eval o).run P w=(callFunc g ((args.toList.map a.eval)++caps.toList).toArray).run P w:=by
    unfold execOp
    rw [hop]
    simp only [resolve,hv,Deferred.ofValue,Sem.run_bind,Sem.run_pure,Result.andThen_ok,invoke]
    congr 2
    apply Array.ext'
    simp
   obtain ⟨g1,g2⟩:=ziy hk.2 hcr
   have hlen:(l++cs.caps).length=((args.toList.map a.eval)++caps.toList).length:=by simp [e1,g1]
   have hs:∀ (i:Nat) s v,(l++cs.caps)[i]?=some s→((args.toList.map a.eval)++caps.toList)[i]?=some v→zi w1 ok M1 s v:=by
    intro i s v hs hv
    by_cases hi:i<l.length
    ·rw [List.getElem?_append_left hi] at hs
     rw [List.getElem?_append_left (by rw [List.length_map,← e1]; exact hi),List.getElem?_map,Option.map_eq_some_iff] at hv
     obtain ⟨x,hx,rfl⟩:=hv
     exact e2 i x s hx hs
    ·rw [List.getElem?_append_right (by omega)] at hs
     rw [List.getElem?_append_right (by rw [List.length_map,← e1]; omega),List.length_map,← e1] at hv
     exact g2 _ s v hs hv
   have hlen2:=hlen
   split at h
   ·rename_i j q rest hbq
    obtain ⟨⟨s0,q',hq⟩,hll,hv⟩:=zz5 hbq
    rw [hll] at hs hlen
    unfold zlk at h
    split at h
    rotate_left
    ·cases h
    rename_i r hr
    cases hrz:r.z <;> rw [hrz] at h
    rotate_left
    ·cases h
    simp only [cond_false] at h
    obtain ⟨l0,m1,m2,m3,m4,m5⟩:=R1.rows j r hr
    rw [← m2,z2r,z45] at h
    obtain ⟨y0,hy0,h⟩:=Option.bind_eq_some_iff.1 h
    obtain ⟨z,hz,rfl⟩:=Option.map_eq_some_iff.1 hy0
    obtain ⟨zt,zx⟩:=z
    cases zt with
    | sl e u =>
     simp only [zcs] at h
     cases hn:(Nat.beq (rest.length+1) c.hi.sl.length&&!c.ch) <;> rw [hn] at h
     ·cases h
     ·simp only [Bool.and_eq_true,Bool.not_eq_true'] at hn
      simp only [cond_true] at h
      have hlen':rest.length+1=((args.toList.map a.eval)++caps.toList).length:=by simpa using hlen
      have Rin:=zz7 R1 hr m1 hz hrz hlen' hs hv
      obtain ⟨x,h,Rx⟩:=zjs Rin hiok h
      obtain ⟨y,hy,h⟩:=Option.bind_eq_some_iff.1 h
      have hdo:=HO (zjt E ⟨.sl e u,zx⟩) (fun _=>rfl) x y hy w ok _ _ _ (by rw [← hlen']; exact Nat.eq_of_beq_eq_true hn.1) (zz8 G R1 hr fun k hk=>by rw [m1]; exact (subL_holds hz m3).2 k hk) Rx
      unfold Oper.wp
      rw [hrun]
      refine hdo.upon fun v w' ⟨M',w2,ok2,O2,hc,R'⟩=>?_
      obtain ⟨rfl,rfl,rfl⟩:=hc.elim id fun h=>by rw [hn.2] at h; cases h.1
      obtain ⟨σ'',M'',h,R''⟩:=zz9 R1 hq hr m1 hz hrz R' hin h
      refine hn'.at _ _ w' M'' h ?_ (by rw [z1j,z3s]) (by rw [z47]; exact hd)
      rw [z1j]
      exact R''
    | _=>simp only [zcs] at h; cases h
   rename_i hnb
   unfold zcl.open1 zcl.open2 at h
   generalize zeh σ1 8 (z4i ((l++cs.caps).flatMap SV.boxes) [])=bids at h
   generalize z4i ((l++cs.caps).flatMap SV.roots++bids.flatMap (zeg σ1)) []=ids at h
   cases hq:((σ1.okIn (l++cs.caps) ids bids&&Nat.beq (l++cs.caps).length c.hi.sl.length)&&(!c.ch||E.rdm)) <;> rw [hq] at h
   ·cases h
   ·simp only [cond_true] at h
    simp only [Bool.and_eq_true] at hq
    obtain ⟨hq,hch⟩:=hq
    have HI:=zys hq.1
    have Rin:=zyt R1 HI hlen hs
    obtain ⟨x,h,Rx⟩:=zjs Rin hiok h
    obtain ⟨y,hy,h⟩:=Option.bind_eq_some_iff.1 h
    have hdo:=HO (zgb E M1 ids bids) (fun _=>rfl) x y hy w ok _ _ _ (by rw [← hlen]; exact Nat.eq_of_beq_eq_true hq.2) (zzb G R1 HI) Rx
    unfold Oper.wp
    rw [hrun]
    refine hdo.upon fun v w' ⟨M',w2,ok2,O2,hc,R'⟩=>?_
    cases hb:σ1.okBack (c.ho.fill y) ids bids (zp o) <;> rw [hb] at h
    ·cases h
    ·simp only [cond_true] at h
     split at h
     ·rename_i v0 hv0
      obtain ⟨M'',w3,ok3,O3,hc3,R''⟩:=zz3 R1 HI hc R' (zz1 hb) hv0 hin
      refine hn' _ _ _ (hc3.up (by simpa using hch)) _ _ w' M'' h ?_ (by rw [z1j,z3s]) (by rw [z47]; exact hd)
      rw [z1j]
      exact R''
     ·cases h
  ·cases h
 ·cases h

theorem zzd {s r:SV} {b:Bool} (h:s.half b=some r):(∀ i∈r.roots,i∈s.roots)∧∀ i∈r.boxes,i∈s.boxes:=by
 match s,b,h with
 | .val (.pr a b) x,false,h=>cases h; exact ⟨by simp [SV.roots],by simp [SV.boxes]⟩
 | .val (.pr a b) x,true,h=>cases h; exact ⟨by simp [SV.roots],by simp [SV.boxes]⟩
 | .val (.st (.pr a b)) x,false,h=>cases h; exact ⟨by simp [SV.roots],by simp [SV.boxes]⟩
 | .val (.st (.pr a b)) x,true,h=>cases h; exact ⟨by simp [SV.roots],by simp [SV.boxes]⟩
 | .pr a b,false,h=>cases h; exact ⟨fun i hi=>by simp [SV.roots,hi],fun i hi=>by simp [SV.boxes,hi]⟩
 | .pr a b,true,h=>cases h; exact ⟨fun i hi=>by simp [SV.roots,hi],fun i hi=>by simp [SV.boxes,hi]⟩
 | .st (.pr a b),false,h=>cases h; exact ⟨fun i hi=>by simp [SV.roots,hi],fun i hi=>by simp [SV.boxes,hi]⟩
 | .st (.pr a b),true,h=>cases h; exact ⟨fun i hi=>by simp [SV.roots,hi],fun i hi=>by simp [SV.boxes,hi]⟩
theorem zor:∀ {p:List Bool} {s r:SV},s.part p=some r→(∀ i∈r.roots,i∈s.roots)∧∀ i∈r.boxes,i∈s.boxes
 | [],s,r,h=>by cases h; exact ⟨fun _ h=>h,fun _ h=>h⟩
 | b::p,s,r,h=>by
  simp only [SV.part] at h
  split at h
  ·rename_i z hz
   obtain ⟨h1,h2⟩:=zor h
   obtain ⟨k1,k2⟩:=zzd hz
   exact ⟨fun i hi=>k1 i (h1 i hi),fun i hi=>k2 i (h2 i hi)⟩
  ·cases h
theorem zze (R:Rep E w0 ok O σ tm w M) {r:ResultVar} {s:SV} (h:z82 E σ r=some s):Live σ s:=by
 cases r with
 | tmp t=>exact R.liveS t s h
 | cell a t =>
  simp only [z82] at h
  split at h
  ·rename_i j q o hs
   split at h
   ·rename_i b hb
    split at h
    ·rename_i s' hp
     cases hk:(Nat.beq (b.c.offP q) o&&(s'.fit (E.tyOf t)).okW (E.tyOf t)) <;> rw [hk] at h
     ·cases h
     ·cases h
      have hL:=R.liveB j b hb
      obtain ⟨h1,h2⟩:=zor hp
      exact zyk _ _ ⟨fun i hi=>hL.rows i (h1 i hi),fun i hi=>hL.boxes i (h2 i hi)⟩
    ·cases h
   ·cases h
  ·cases h
theorem zgd (T:zb P E.ti=true) (R:Rep E w0 ok O σ tm w M):∀ {rs:List ResultVar} {l:List SV},z83 E σ rs=some l→∃ vs,Rvs P tm w rs vs∧vs.length=l.length∧∀ (i:Nat) s v,l[i]?=some s→vs[i]?=some v→zi w0 ok M s v∧Live σ s
 | [],l,h=>by cases h; exact ⟨[],trivial,rfl,by simp⟩
 | r::rs,l,h=>by
  simp only [z83] at h
  split at h
  ·rename_i s ss h1 h2
   cases h
   obtain ⟨v,g1,g2⟩:=zo8 T R h1
   obtain ⟨vs,k1,k2,k3⟩:=zgd T R h2
   refine ⟨v::vs,⟨g1,k1⟩,by simp [k2],fun i s' v' hs hv=>?_⟩
   cases i with
   | zero=>simp at hs hv; subst hs; subst hv; exact ⟨g2,zze R h1⟩
   | succ i=>simp only [List.getElem?_cons_succ] at hs hv; exact k3 i s' v' hs hv
  ·cases h
theorem zos:∀ {l:List SV} {vs:List Value},vs.length=l.length→(∀ (i:Nat) s v,l[i]?=some s→vs[i]?=some v→zi w0 ok M s v∧Live σ s)→l.all SV.nt=true→z2d w0 ok M (z2w l) vs∧Live σ (z2w l)
 | [],[],_,_,_=>⟨rfl,⟨by simp [z2w,SV.roots],by simp [z2w,SV.boxes]⟩⟩
 | s::l,v::vs,hl,H,hk=>by
  simp only [List.all_cons,Bool.and_eq_true] at hk
  obtain ⟨h1,h2⟩:=zos (l:=l) (vs:=vs) (by simpa using hl) (fun i s v a b=>H (i+1) s v a b) hk.2
  obtain ⟨h3,h4⟩:=H 0 s v rfl rfl
  refine ⟨⟨v,vs,rfl,?_,h1⟩,⟨fun i hi=>?_,fun i hi=>?_⟩⟩
  ·rcases z34 h3 with rfl | ⟨c,q,rfl,_⟩ | ⟨cs,g1,g2⟩
   ·simp [SV.nt] at hk
   ·simp [SV.nt] at hk
   ·exact ⟨cs,g1,g2⟩
  ·simp only [z2w,SV.roots,List.mem_append] at hi
   exact hi.elim (h4.rows i) (h2.rows i)
  ·simp only [z2w,SV.boxes,List.mem_append] at hi
   exact hi.elim (h4.boxes i) (h2.boxes i)
 | [],_::_,hl,_,_=>by simp at hl
 | _::_,[],hl,_,_=>by simp at hl

theorem zzf (T:zb P E.ti=true) (R:Rep E w0 ok O σ tm w M) {fn:Func} {rs:List ResultVar} (hr:fn.results.toList=rs) {ho:Head} (hok:ho.ok=true) {y:ho.T} (h:rdO E rs ho σ=some y):∃ v M',(results fn tm).run P w=.ok v w∧Rep E w0 ok O (ho.fill y) #[v] w M':=by
 unfold rdO at h
 split at h
 ·rename_i l hl
  obtain ⟨vs,h1,h2,h3⟩:=zgd T R hl
  cases hk:l.all SV.nt <;> rw [hk] at h
  ·cases h
  ·simp only [cond_true] at h
   have R2:Rep E w0 ok O ⟨[(0,zes l)],σ.rows,σ.bx⟩ #[if h:vs.toArray.size=1 then vs.toArray[0] else .tuple vs.toArray] w M:=by
    refine R.slotsTo fun s v hv=>?_
    rw [zn] at hv
    split at hv
    ·rename_i e
     subst e
     cases hv
     refine (fun (x:zi w0 ok M (zes l) _∧Live σ (zes l))=>⟨⟨_,rfl,x.1⟩,x.2⟩) ?_
     obtain ⟨c1,c2⟩:=zos h2 h3 hk
     match l,vs,h2 with
     | [s],[v],_=>exact h3 0 s v rfl rfl
     | [],[],_=>exact ⟨⟨_,rfl,c1⟩,⟨c2.rows,c2.boxes⟩⟩
     | s::s'::l,v::v'::vs,_ =>
      rw [dif_neg (by simp)]
      exact ⟨⟨_,rfl,c1⟩,⟨c2.rows,c2.boxes⟩⟩
    ·cases hv
   obtain ⟨y',M',g1,g2⟩:=zbd R2 hok h
   cases g1
   exact ⟨_,M',zdi hr h1,g2⟩
 ·cases h

structure FnO (P:Program) (ti:List TI) (tab:List (Nat×FE)) (opn:Nat→Option (FuncId×OC)) (g:FuncId) (c:OC):Prop where
 hi:c.hi.ok=true
 ho:c.ho.ok=true
 ch:(!(ti.any fun i=>!i.ty.noRd)||c.ch)=true
 ex : ∃ (fn : Func) (cd : Code) (rs : List ResultVar) (LO : Oracles c.ho.T), P.funcs[g]? = some fn ∧ fn.body = some cd ∧ (fn.name == "runtime.NumGoroutine") = false ∧ fn.results.toList = rs ∧ c.hi.sl.length ≤ fn.ntmps ∧
  ∀ pins pinB,CodeOK (zq ti tab opn pins pinB) LO (rdO (zq ti tab opn pins pinB) rs c.ho) fn.ntmps cd ∧
   ∀ x,evC (zq ti tab opn pins pinB) LO (rdO (zq ti tab opn pins pinB) rs c.ho) cd (c.hi.fill x) (rdO (zq ti tab opn pins pinB) rs c.ho) (fun _ _=>none)=c.F x

theorem FnO.contract [Glob P] {ti:List TI} {tab:List (Nat×FE)} {opn:Nat→Option (FuncId×OC)} (T:zb P ti=true) (HT:z52 ti=true) (hmix:P.follows .mixedOrders=true) (S:∀ e∈tab,zc P e.1 e.2) (KO:∀ s g c,opn s=some (g,c)→z17 P ti g c) {g:FuncId} {c:OC}
  (H:FnO P ti tab opn g c):z17 P ti g c:=by
 refine ⟨H.hi,fun E hE x y hF w ok O M vs hlen G R=>?_⟩
 obtain ⟨fn,cd,rs,LO,h1,h2,h3,h4,h5,h6⟩:=H.ex
 obtain ⟨h7,h8⟩:=h6 E.pins E.pinB
 have R1:Rep (zq ti tab opn E.pins E.pinB) w ok O (c.hi.fill x) vs.toArray w M:=R.env (fun t=>(hE t).symm) rfl rfl
 have K:z2l P (zq ti tab opn E.pins E.pinB) w O:=zgc KO G
 have EQ:z1v P (zq ti tab opn E.pins E.pinB):=z1v.of T HT
 have SS:SpecOK P (zq ti tab opn E.pins E.pinB) w O:=SpecOK.of S G
 unfold z25
 rw [z7l h1 h2 h3]
 simp only []
 refine calls_of_wp h1 h2 ?_
 have hrd:∀ e:Exit,(e=.normal∨e=.ret)→z1k (zq ti tab opn E.pins E.pinB) w ok O y fn.ntmps (rdO (zq ti tab opn E.pins E.pinB) rs c.ho) (bodyPost P fn (fun | .returned v,w''=>∃ M' w2 ok2 O2,z2i c.ch w ok O w2 ok2 O2∧Rep E w2 ok2 O2 (c.ho.fill y) #[v] w'' M' | _,_=>False) e):=by
  intro e he w2 ok2 O2 hc σ1 a1 w1 M1 hk R1 hn1 hd1
  obtain ⟨v,M2,g1,g2⟩:=zzf T R1 h4 H.ho hk
  have hb:a1.defers=[]∧∃ v,(results fn a1.tmps).run P w1=.ok v w1∧∃ M' w2 ok2 O2,z2i c.ch w ok O w2 ok2 O2∧Rep E w2 ok2 O2 (c.ho.fill y) #[v] w1 M':=⟨hd1,v,g1,M2,_,_,_,hc.up (by simpa [Env.rdm,zq] using H.ch),g2.env hE rfl rfl⟩
  rcases he with rfl | rfl
  ·exact hb
  ·exact hb
 have hev:=h8 x
 rw [hF] at hev
 have R2:Rep (zq ti tab opn E.pins E.pinB) w ok O (c.hi.fill x) (vs.toArray++Array.replicate (fn.ntmps-vs.toArray.size) undef) w M :=
  R1.slotsTo fun s v hv=>by
   obtain ⟨u,e1,e2⟩:=R1.slots s v hv
   exact ⟨⟨u,by rw [Array.getElem?_append_left (Array.getElem?_eq_some_iff.1 e1).1]; exact e1,e2⟩,R1.liveS s v hv⟩
 refine zdh T EQ SS K hmix h7 hev R2 (by simp only [Array.size_append,Array.size_replicate,List.size_toArray,hlen]; omega) rfl (hrd _ (.inl rfl)) (fun id=>?_) (hrd _ (.inr rfl))
 intro w2 ok2 O2 hc σ1 a1 w1 M1 hk
 cases hk
end

abbrev z7 (x:Int):Int:=IntKind.i64.wrap x
abbrev z4o (x:Int):Int:=IntKind.u8.wrap x
abbrev z1a (x:Int):Int:=IntKind.u64.wrap x
abbrev z56 (k:IntKind) (x y:Int):Int:=z8t k (· &&& ·) x y
abbrev z6r (k:IntKind) (x y:Int):Int:=z8t k (· ^^^ ·) x y
abbrev z2c (xs:List Int):List UInt8:=xs.map fun (n:Int)=>n.toNat.toUInt8
abbrev z16 (x:List UInt8):List Int:=x.map fun b=>(b.toNat:Int)
abbrev z_u8 (b:UInt8):Int:=(b.toNat:Int)
def z3p (f:Func):Code:=match f.body with | some c=>c | none=>.skip

section
variable {P : Program} {E : Env} {R0 : Type}
theorem zju [Glob P] {ti:List TI} {l:List (Nat×FuncId×OC)} (h:∀ x∈l,z17 P ti x.2.1 x.2.2):∀ s g c,lk l s=some (g,c)→z17 P ti g c:=fun s g c hl=>h (s,g,c) (z13 hl)
theorem zjv {LO:Oracles R0} {rd:St→Option R0} {c:Code} (h:(fun n=>LO.cut n)=fun _=>none):∀ b∈z5f c,∀ f,LO.cut (z43 b)=some f→zo6 E LO rd b f:=by
 intro b hb f hf
 have:=congrFun h (z43 b)
 rw [this] at hf; cases hf
def LOn (R:Type):Oracles R:=⟨fun _=>none,fun _=>none⟩
def z36:Nat→Value:=fun _=>.nilFunc
def z38:Nat→Nat:=fun _=>0
theorem zzg [Glob P] {ti:List TI} {tab:List (Nat×FE)} {l:List (Nat×FuncId×OC)} (T:zb P ti=true) (HT:z52 ti=true) (hmix:P.follows .mixedOrders=true) (S:∀ e∈tab,zc P e.1 e.2) (KO:∀ x∈l,z17 P ti x.2.1 x.2.2) {g:FuncId} {ts:Ty} {n:Nat} {t:Ty} {F:ts.T→Option t.T}
  (H:FnR P (zq ti tab (lk l) z36 z38) g ts n t F) (hn:Nat.blt n RON=true:=by rfl):zc P g ⟨ts,n,t,F⟩ :=
 H.contract T (z1v.of (E:=zq ti tab (lk l) z36 z38) T HT) (fun w G=>zgc (E:=zq ti tab (lk l) z36 z38) (zju KO) G) hmix S hn
theorem zzh [Glob P] {ti:List TI} {tab:List (Nat×FE)} {l:List (Nat×FuncId×OC)} (T:zb P ti=true) (HT:z52 ti=true) (hmix:P.follows .mixedOrders=true) (S:∀ e∈tab,zc P e.1 e.2) (KO:∀ x∈l,z17 P ti x.2.1 x.2.2) {g:FuncId} {c:OC}
  (H:FnO P ti tab (lk l) g c):z17 P ti g c:=H.contract T HT hmix S (zju KO)
end

def z8n:SV→Option SVal
 | .val t x=>some ⟨t,x⟩
 | .st s=>match z8n s with | some v=>some ⟨.st v.t,v.x⟩ | none=>none
 | .pr a b=>match z8n a,z8n b with | some v,some u=>some ⟨.pr v.t u.t,(v.x,u.x)⟩ | _,_=>none
 | _=>none
noncomputable def rdB (E:Env) (rs:List ResultVar) (ty:TypeId) (t:Ty) (σ:St):Option t.T:=match rs with
 | [r]=>match z82 E σ r with
  | some (.bp j [] 0)=>match lk σ.bx j with
   | some b=>bif Nat.beq b.ty ty then (match z8n b.c with
    | some ⟨u,x⟩=>zf u t x some
    | none=>none) else none
   | none=>none
  | _=>none
 | _=>none
noncomputable def rdV (E:Env) (rs:List ResultVar) (t:Ty) (σ:St):Option t.T:=match rs with
 | [r]=>match z82 E σ r with
  | some (.val u x)=>zf u t x some
  | _=>none
 | _=>none
section
variable {P : Program} {E : Env} {w0 : World} {ok O : Nat → Prop} {σ σ' : St} {tm : Array Value} {w w' : World} {M M' : Map} {a : Act} {R0 : Type} {res : R0}

structure FnV (P:Program) (E:Env) (g:FuncId) (ts:Ty) (t:Ty) (F:ts.T→Option t.T):Prop where
 nc:E.rdm=false
 ex : ∃ (fn : Func) (c : Code) (rs : List ResultVar) (LO : Oracles t.T), P.funcs[g]? = some fn ∧ fn.body = some c ∧ (fn.name == "runtime.NumGoroutine") = false ∧ fn.results.toList = rs ∧ z4f ts ≤ fn.ntmps ∧
  CodeOK E LO (rdV E rs t) fn.ntmps c∧∀ x,evC E LO (rdV E rs t) c ⟨z4x ts x 0,[],[]⟩ (rdV E rs t) (fun _ _=>none)=F x

theorem FnV.does [Glob P] (T:zb P E.ti=true) (EQ:z1v P E) {w:World} (S:SpecOK P E w (fun _=>False)) (K:z2l P E w (fun _=>False)) (hmix:P.follows .mixedOrders=true) {g:FuncId} {ts:Ty} {t:Ty} {F:ts.T→Option t.T} (H:FnV P E g ts t F)
  {args:List SVal} {vs:List Value} (hok:∀ k,ok k→k<w.heap.size) (ha:z1z w ok args vs) {x:ts.T} (hx:z1p ts args some=some x) {r:t.T} (hr:F x=some r):z25 P g vs.toArray w (zd9 w ok t r):=by
 obtain ⟨fn,c,rs,LO,h1,h2,h3,h4,h6,h7,h8⟩:=H.ex
 have hnc:=H.nc
 unfold z25
 rw [z7l h1 h2 h3]
 simp only []
 obtain ⟨x',hx',hlen,hsl⟩:=zg1 hx ha
 cases hx'
 refine calls_of_wp h1 h2 ?_
 have hrd:∀ e:Exit,(e=.normal∨e=.ret)→z1k E w ok (fun _=>False) r fn.ntmps (rdV E rs t) (bodyPost P fn (fun | .returned v,w''=>zd9 w ok t r v w'' | _,_=>False) e):=by
  intro e he w2 ok2 O2 hc σ1 a1 w1 M1 hk R1 hn1 hd1
  obtain ⟨e1,e2,e3⟩:w2=w∧ok2=ok∧O2=fun _=>False:=hc.elim id fun h=>by rw [hnc] at h; cases h.1
  rw [e1,e2,e3] at R1
  unfold rdV at hk
  split at hk
  ·rename_i rv
   split at hk
   ·rename_i u y hv
    unfold zf at hk
    split at hk
    ·rename_i e1
     subst e1
     have hk:y=r:=Option.some.inj hk
     subst hk
     have hl:z83 E σ1 [rv]=some [.val u y]:=by simp only [z83,hv]
     obtain ⟨vs1,g1,g2,g3⟩:=zgd T R1 hl
     have hb:a1.defers=[]∧∃ v,(results fn a1.tmps).run P w1=.ok v w1∧zd9 w ok u y v w1:=by
      match vs1,g2 with
      | [v1],_ =>
      obtain ⟨⟨cs,k1,k2⟩,_⟩:=g3 0 (.val u y) v1 rfl rfl
      refine ⟨hd1,_,zdi h4 g1,cs,k1,?_,R1.kept⟩
      unfold z2h at k2
      rw [z66] at k2
      have:z1f u v1 cs:=k2
      simpa using this
     rcases he with rfl | rfl
     ·exact hb
     ·exact hb
    ·cases hk
   ·cases hk
  ·cases hk
 have hev:=h8 x
 rw [hr] at hev
 refine zdh T EQ S K hmix h7 hev (zo9 hok hsl (fn.ntmps-vs.toArray.size)) (by simp only [Array.size_append,Array.size_replicate,List.size_toArray,hlen]; omega) rfl (hrd _ (.inl rfl)) (fun id=>?_) (hrd _ (.inr rfl))
 intro w2 ok2 O2 hc σ1 a1 w1 M1 hk
 cases hk
theorem zge {w0:World} {ok:Nat→Prop} {M:Map}:∀ {s:SV} {v:SVal} {cs:List Value},z8n s=some v→za w0 ok M s cs→s.isCh=false∧Rd w0 ok v.t v.x cs
 | .val t x,v,cs,h,hr=>by cases h; exact ⟨rfl,hr⟩
 | .st s,v,cs,h,hr=>by
  simp only [z8n] at h
  split at h
  ·rename_i u hu
   cases h
   exact ⟨rfl,(zge hu hr).2⟩
  ·cases h
 | .pr a b,v,cs,h,hr=>by
  simp only [z8n] at h
  split at h
  ·rename_i x y hx hy
   cases h
   obtain ⟨c1,c2,rfl,h1,h2⟩:=hr
   exact ⟨rfl,c1,c2,rfl,(zge hx h1).2,(zge hy h2).2⟩
  ·cases h
 | .ref _ _,_,_,h,_=>nomatch h
 | .vw _ _ _,_,_,h,_=>nomatch h
 | .ls _,_,_,h,_=>nomatch h
 | .bp _ _ _,_,_,h,_=>nomatch h
 | .ep _ _ _ _ _,_,_,h,_=>nomatch h
 | .lp _ _,_,_,h,_=>nomatch h
 | .clo _ _,_,_,h,_=>nomatch h
 | .tup _,_,_,h,_=>nomatch h
 | .cns _ _,_,_,h,_=>nomatch h
 | .nl,_,_,h,_=>nomatch h
 | .no,_,_,h,_=>nomatch h
 | .er _,_,_,h,_=>nomatch h
 | .un,_,_,h,_=>nomatch h
theorem zzi {s:SV} {v:SVal} (h:z8n s=some v):s.isCh=false:=by cases s <;> first | rfl | cases h
structure FnB (P:Program) (E:Env) (g:FuncId) (ts:Ty) (ty:TypeId) (t:Ty) (F:ts.T→Option t.T):Prop where
 nc:E.rdm=false
 ex : ∃ (fn : Func) (c : Code) (rs : List ResultVar) (LO : Oracles t.T), P.funcs[g]? = some fn ∧ fn.body = some c ∧ (fn.name == "runtime.NumGoroutine") = false ∧ fn.results.toList = rs ∧ z4f ts ≤ fn.ntmps ∧
  CodeOK E LO (rdB E rs ty t) fn.ntmps c∧∀ x,evC E LO (rdB E rs ty t) c ⟨z4x ts x 0,[],[]⟩ (rdB E rs ty t) (fun _ _=>none)=F x
theorem FnB.does [Glob P] (T:zb P E.ti=true) (EQ:z1v P E) {w:World} (S:SpecOK P E w (fun _=>False)) (K:z2l P E w (fun _=>False)) (hmix:P.follows .mixedOrders=true) {g:FuncId} {ts:Ty} {ty:TypeId} {t:Ty} {F:ts.T→Option t.T} (H:FnB P E g ts ty t F)
  {args:List SVal} {vs:List Value} (hok:∀ k,ok k→k<w.heap.size) (ha:z1z w ok args vs) {x:ts.T} (hx:z1p ts args some=some x) {r:t.T} (hr:F x=some r):z25 P g vs.toArray w (zay w ok ty t r):=by
 obtain ⟨fn,c,rs,LO,h1,h2,h3,h4,h6,h7,h8⟩:=H.ex
 have hnc:=H.nc
 unfold z25
 rw [z7l h1 h2 h3]
 simp only []
 obtain ⟨x',hx',hlen,hsl⟩:=zg1 hx ha
 cases hx'
 refine calls_of_wp h1 h2 ?_
 have hrd:∀ e:Exit,(e=.normal∨e=.ret)→z1k E w ok (fun _=>False) r fn.ntmps (rdB E rs ty t) (bodyPost P fn (fun | .returned v,w''=>zay w ok ty t r v w'' | _,_=>False) e):=by
  intro e he w2 ok2 O2 hc σ1 a1 w1 M1 hk R1 hn1 hd1
  obtain ⟨e1,e2,e3⟩:w2=w∧ok2=ok∧O2=fun _=>False:=hc.elim id fun h=>by rw [hnc] at h; cases h.1
  rw [e1,e2,e3] at R1
  unfold rdB at hk
  split at hk
  ·rename_i rv
   split at hk
   ·rename_i j hv
    split at hk
    ·rename_i b hb
     cases hty:Nat.beq b.ty ty <;> rw [hty] at hk
     ·cases hk
     simp only [cond_true] at hk
     have hty:=Nat.eq_of_beq_eq_true hty
     split at hk
     ·rename_i u y hfl
      unfold zf at hk
      split at hk
      ·rename_i e1
       subst e1
       have hk:y=r:=Option.some.inj hk
       subst hk
       have hl:z83 E σ1 [rv]=some [.bp j [] 0]:=by simp only [z83,hv]
       obtain ⟨vs1,g1,g2,g3⟩:=zgd T R1 hl
       have hb:a1.defers=[]∧∃ v,(results fn a1.tmps).run P w1=.ok v w1∧zay w ok ty u y v w1:=by
        match vs1,g2 with
        | [v1],_ =>
        obtain ⟨⟨cs,k1,k2⟩,_⟩:=g3 0 (.bp j [] 0) v1 rfl rfl
        simp only [za] at k1
        subst k1
        have k3:v1=.pointer (some ⟨M1.blk j,0,none⟩):=by
         rcases k2 with ⟨k4,_⟩ | ⟨_,k4⟩
         ·cases k4
         ·simp only [List.cons.injEq,and_true] at k4; exact k4.symm
        subst k3
        obtain ⟨cs,m1,m2,_⟩:=R1.boxes j b hb
        have m3:=(zge hfl (zaq m1 (zzi hfl))).2
        have hown:=(R1.ownB j ⟨b,hb⟩).2.resolve_left (fun h=>h)
        refine ⟨hd1,_,zdi h4 g1,M1.blk j,cs,rfl,hown,?_,m3,R1.kept⟩
        rw [m2,hty]
       rcases he with rfl | rfl
       ·exact hb
       ·exact hb
      ·cases hk
     ·cases hk
    ·cases hk
   ·cases hk
  ·cases hk
 have hev:=h8 x
 rw [hr] at hev
 refine zdh T EQ S K hmix h7 hev (zo9 hok hsl (fn.ntmps-vs.toArray.size)) (by simp only [Array.size_append,Array.size_replicate,List.size_toArray,hlen]; omega) rfl (hrd _ (.inl rfl)) (fun id=>?_) (hrd _ (.inr rfl))
 intro w2 ok2 O2 hc σ1 a1 w1 M1 hk
 cases hk
theorem zzj [Glob P] {ti:List TI} {tab:List (Nat×FE)} {l:List (Nat×FuncId×OC)} (T:zb P ti=true) (HT:z52 ti=true) (hmix:P.follows .mixedOrders=true) (S:∀ e∈tab,zc P e.1 e.2) (KO:∀ x∈l,z17 P ti x.2.1 x.2.2) {g:FuncId} {ts:Ty} {ty:TypeId} {t:Ty} {F:ts.T→Option t.T}
  (H:FnB P (zq ti tab (lk l) z36 z38) g ts ty t F) {n:Nat} (hn:Nat.blt RON n=true) (he:n-NBN=ty):zc P g ⟨ts,n,t,F⟩ :=
 have hn:RON<n:=Nat.le_of_ble_eq_true hn
 ⟨fun h=>absurd hn (Nat.not_lt.2 (Nat.le_of_lt h)),⟨fun h=>absurd hn (by have h:n=RON:=h; omega),fun _ args vs w ok x r G hk ha hx hr=>by
  show z25 P g vs.toArray w (zay w ok (n-NBN) t r)
  rw [he]
  exact H.does T (z1v.of (E:=zq ti tab (lk l) z36 z38) T HT) (SpecOK.of S (.new G)) (zgc (E:=zq ti tab (lk l) z36 z38) (zju KO) (.new G)) hmix hk ha hx hr⟩⟩
end

def Ty.dat:Ty→Bool
 | .int _=>true
 | .bool=>true
 | .str=>true
 | .sl _ t=>t.dat
 | .st t=>t.dat
 | .pr a b=>a.dat&&b.dat
 | _=>false
def InR:(t:Ty)→t.T→Prop
 | .int k,n=>(Lit.int k n).wf=true
 | .str,s=>List.length s≤140737488351232
 | .sl _ t,xs=>List.length xs≤140737488351232∧∀ x∈xs,InR t x
 | .st t,x=>InR t x
 | .pr a b,x=>InR a x.1∧InR b x.2
 | .bool,_=>True
 | .ptr _,_=>True
 | .rd _,_=>True
 | .un,_=>True
 | .fn _ _,_=>True
 | .fs _,_=>True

section
variable {H : Type} {enc : TypeId × Value → H} {P : Program} {E : Env} {w : World} {base : Nat} {spare : Nat → Bool} {held : Bool}

theorem zot {e:TypeId}:∀ {l:List (DataW H)} {d:DataW H},d∈l→∀ n∈d.weights P e,n∈DataW.weightsAll P e l
 | [],d,h=>by cases h
 | x::l,d,h=>by
  intro n hn
  simp only [DataW.weightsAll,List.mem_append]
  rcases List.mem_cons.1 h with rfl | h
  ·exact .inl hn
  ·exact .inr (zot h n hn)

def zou (P:Program) (E:Env) (w:World) (enc:TypeId×Value→H) (base:Nat) (spare:Nat→Bool) (held:Bool) (fuel:Nat):Prop :=
 ∀ (t:TypeId) (cs:List Value) (x:DataW H×List MemPlace),(E.tyOf t).dat=true→DataW.trod enc P w base spare held fuel t cs=some x→(∀ n∈x.1.weights P t,n≤reachBytes)→∃ v:(E.tyOf t).T,Rd w (Lt w) (E.tyOf t) v cs∧InR (E.tyOf t) v

theorem zgf (T:zb P E.ti=true) {t:TypeId} (h:(E.tyOf t).sz≠0):P.cellsOf t=(E.tyOf t).sz∧0<P.bytesOf t:=by
 obtain ⟨ti,h1,h2,h3⟩:=z49 T h
 obtain ⟨⟨⟨i,i1,i2,i3,i4,_⟩,_⟩,_⟩:=z2f T h1 h3
 refine ⟨?_,?_⟩
 ·unfold Program.cellsOf
  simp only [i1,← h2]
  simpa using i2
 ·unfold Program.bytesOf
  simp only [i1]
  simpa using i4

theorem z9j:∀ {t:Ty},t.dat=true→t.sz≠0
 | .int _,_=>by simp [Ty.sz]
 | .bool,_=>by simp [Ty.sz]
 | .str,_=>by simp [Ty.sz]
 | .sl _ _,_=>by simp [Ty.sz]
 | .st t,h=>z9j (t:=t) h
 | .pr a b,h=>by
  simp only [Ty.dat,Bool.and_eq_true] at h
  have:=z9j h.1
  simp only [Ty.sz]; omega
 | .ptr _,h=>by cases h
 | .un,h=>by cases h
 | .fn _ _,h=>by cases h
 | .fs _,h=>by cases h

theorem zov (T:zb P E.ti=true) {n:Nat} (IH:zou P E w enc base spare held n):∀ (fl:List Field) (o:Nat) (u:Ty),z4k E.ti (fl.map fun f=>(f.type,f.offset)) o=some u→u.dat=true →
  ∀ (cs p q:List Value) (xs:List (DataW H×List MemPlace)),cs=p++q→p.length=o→q.length=u.sz→(∀ (i:Nat) (f:Field),fl[i]?=some f→∃ x,xs[i]?=some x∧DataW.trod enc P w base spare held n f.type ((cs.drop f.offset).take (P.cellsOf f.type))=some x∧∀ m∈x.1.weights P f.type,m≤reachBytes) →
  ∃ v:u.T,Rd w (Lt w) u v q∧InR u v
 | [],o,u,h,_,_,_,_,_,_,_,_,_=>by cases h
 | [f],o,u,h,hd,cs,p,q,xs,hcs,hp,hq,H=>by
  subst hcs
  simp only [List.map_cons,List.map_nil,z4k] at h
  cases hb:(Nat.beq f.offset o&&!Nat.beq (z14 E.ti f.type).sz 0) <;> rw [hb] at h
  ·cases h
  ·cases h
   simp only [Bool.and_eq_true,Bool.not_eq_true'] at hb
   have ho:=Nat.eq_of_beq_eq_true hb.1
   have h0:(E.tyOf f.type).sz≠0:=z48 hb.2
   obtain ⟨x,_,h2,h3⟩:=H 0 f rfl
   have hq2:q.length≤(E.tyOf f.type).sz:=Nat.le_of_eq hq
   rw [(zgf T h0).1,ho,← hp,List.drop_left,List.take_of_length_le hq2] at h2
   exact IH f.type q x hd h2 h3
 | f::f2::fl,o,u,h,hd,cs,p,q,xs,hcs,hp,hq,H=>by
  subst hcs
  simp only [List.map_cons,z4k] at h
  cases hb:(Nat.beq f.offset o&&!Nat.beq (z14 E.ti f.type).sz 0) <;> rw [hb] at h
  ·cases h
  ·simp only [cond_true] at h
   split at h
   ·rename_i u' hu
    cases h
    simp only [Bool.and_eq_true,Bool.not_eq_true'] at hb
    simp only [Ty.dat,Bool.and_eq_true] at hd
    have ho:=Nat.eq_of_beq_eq_true hb.1
    have h0:(E.tyOf f.type).sz≠0:=z48 hb.2
    obtain ⟨x,_,h2,h3⟩:=H 0 f rfl
    rw [(zgf T h0).1,ho,← hp,List.drop_left] at h2
    have hq':q.length=(E.tyOf f.type).sz+u'.sz:=hq
    obtain ⟨v1,r1,f1⟩:=IH f.type _ x hd.1 h2 h3
    obtain ⟨v2,r2,f2'⟩:=zov T IH (f2::fl) (o+(z14 E.ti f.type).sz) u' hu hd.2 (p++q) (p++q.take (E.tyOf f.type).sz) (q.drop (E.tyOf f.type).sz) xs.tail (by rw [List.append_assoc,List.take_append_drop]) (by
     rw [List.length_append,hp,List.length_take,Nat.min_eq_left (by omega)]; rfl) (by rw [List.length_drop]; omega) (fun i g hg=>by
     obtain ⟨y,y1,y2⟩:=H (i+1) g (by simpa using hg)
     exact ⟨y,by simpa [List.getElem?_tail] using y1,y2⟩)
    exact ⟨(v1,v2),⟨_,_,(List.take_append_drop _ _).symm,r1,r2⟩,f1,f2'⟩
   ·cases h

theorem zjw (T:zb P E.ti=true):∀ fuel,zou P E w enc base spare held fuel
 | 0=>fun t cs x _ h=>by simp [DataW.trod] at h
 | fuel+1=>by
  intro t cs x hd h hw
  obtain ⟨ti,h1,h2,h3⟩:=z49 T (z9j hd)
  obtain ⟨sh,ty,b⟩:=ti
  have h2:ty=E.tyOf t:=h2
  cases sh with
  | oth=>exact absurd rfl h3
  | int k =>
   obtain ⟨hu,hty⟩:=zij T h1
   have e:E.tyOf t=.int k:=h2.symm.trans hty
   rw [e]
   obtain ⟨n,rfl,rfl,hn⟩:=DataW.trod_int hu h
   exact ⟨n,rfl,hn⟩
  | bool =>
   obtain ⟨hu,hty⟩:=zik T h1
   have e:E.tyOf t=.bool:=h2.symm.trans hty
   rw [e]
   obtain ⟨b',rfl,rfl⟩:=DataW.trod_bool hu h
   exact ⟨b',rfl,trivial⟩
  | str =>
   obtain ⟨hu,hty⟩:=z96 T h1
   have e:E.tyOf t=.str:=h2.symm.trans hty
   rw [e]
   obtain ⟨s,rfl,rfl,hs⟩:=DataW.trod_string hu h
   exact ⟨s.data.toList,rfl,hw _ (by simp [DataW.weights])⟩
  | sl e0 =>
   obtain ⟨hu,u0,hty,hu0⟩:=z6h T h1
   have e:E.tyOf t=.sl e0 (E.tyOf e0):=by
    rcases hu0 with rfl | rfl
    ·exact h2.symm.trans hty
    ·rw [h2.symm.trans hty] at hd; cases hd
   rw [e] at hd ⊢
   have hd0:(E.tyOf e0).dat=true:=hd
   obtain ⟨c1,c2⟩:=zgf T (z9j hd0)
   rcases DataW.trod_slice hu h with ⟨rfl,rfl⟩ | ⟨a,len,cap,elems,rest,n,hn,rfl,rfl,hb,hl,hm,hlen,hel,_,_⟩
   ·exact ⟨[],⟨none,0,rfl,Nat.le_refl _,fun h=>absurd rfl h⟩,by simp,by simp⟩
   ·cases hn
    have hws:∀ d∈elems,∀ m∈d.1.weights P e0,m≤reachBytes:=fun d hd m hm=>hw m (by
     simp only [DataW.weights,hu,List.mem_cons,List.mem_append]
     exact .inr (.inl (zot (List.mem_map.2 ⟨d,hd,rfl⟩) m hm)))
    have each:∀ i,i<len→∃ v:(E.tyOf e0).T,(∃ ds,Rd w (Lt w) (E.tyOf e0) v ds∧z2a w (a.add (i*(E.tyOf e0).sz)) ds)∧InR (E.tyOf e0) v:=by
     intro i hi
     have q:=hel i hi
     rw [List.getElem?_eq_getElem (by omega)] at q
     obtain ⟨ds,q1,q2⟩:=Option.bind_eq_some_iff.1 q
     obtain ⟨v,r1,r2⟩:=zjw T _ e0 ds _ hd0 q2 (hws _ (List.getElem_mem _))
     obtain ⟨_,z2,z3⟩:=World.cells?_some q1
     refine ⟨v,⟨ds,r1,fun j u hj=>?_⟩,r2⟩
     have hj':j<P.cellsOf e0:=by rw [← z2]; exact (List.getElem?_eq_some_iff.1 hj).1
     rw [← c1,z3 j hj']; exact hj
    have hlist:∀ m,m≤len→∃ xs:List (E.tyOf e0).T,xs.length=m∧(∀ i x,xs[i]?=some x→(∃ ds,Rd w (Lt w) (E.tyOf e0) x ds∧z2a w (a.add (i*(E.tyOf e0).sz)) ds)∧InR (E.tyOf e0) x):=by
     intro m
     induction m with
     | zero=>exact fun _=>⟨[],rfl,by simp⟩
     | succ m ih =>
      intro hm
      obtain ⟨xs,l1,l2⟩:=ih (by omega)
      obtain ⟨v,hv⟩:=each m (by omega)
      refine ⟨xs++[v],by simp [l1],fun i x hx=>?_⟩
      by_cases hi:i<xs.length
      ·rw [List.getElem?_append_left hi] at hx; exact l2 i x hx
      ·rw [List.getElem?_append_right (by omega)] at hx
       have:i=m:=by have:=(List.getElem?_eq_some_iff.1 hx).1; simp at this; omega
       subst this
       rw [l1] at hx
       simp at hx
       subst hx
       exact hv
    obtain ⟨xs,l1,l2⟩:=hlist len (Nat.le_refl _)
    refine ⟨xs,⟨some a,cap,by rw [← l1],by rw [l1]; exact hl,fun hne=>⟨a,rfl,?_,fun i x hx=>(l2 i x hx).1⟩⟩,?_,fun x hx=>?_⟩
    ·have hpos:0<len:=by rw [← l1]; exact List.length_pos_iff.2 hne
     have q:=hel 0 hpos
     rw [List.getElem?_eq_getElem (by omega)] at q
     obtain ⟨ds,q1,q2⟩:=Option.bind_eq_some_iff.1 q
     have:=World.cells?_block q1 (by rw [c1]; exact Nat.pos_of_ne_zero (z9j hd0))
     rwa [zcd] at this
    ·have:=hw ((elems.map (·.1)).length+(rest.map (·.1)).length |> (·*P.bytesOf e0)) (by simp [DataW.weights,hu])
     rw [l1]
     simp only [List.length_map,hlen] at this
     have h9:len*1≤(len+rest.length)*P.bytesOf e0:=Nat.mul_le_mul (by omega) c2
     have h10:reachBytes=140737488351232:=rfl
     omega
    ·obtain ⟨i,hi⟩:=List.getElem?_of_mem hx
     exact (l2 i x hi).2
  | st fs =>
   obtain ⟨fields,u,hu,hf,hty,hc,_⟩:=zav T h1
   have e:E.tyOf t=.st u:=h2.symm.trans hty
   have h0:=z9j hd
   obtain ⟨c1,_⟩:=zgf T h0
   rw [e] at hd c1 ⊢
   obtain ⟨xs,n,hn,rfl,hl,hxl,hx⟩:=DataW.trod_struct hu h
   cases hn
   rw [← hf] at hc
   obtain ⟨v,r1,r2⟩:=zov (q:=cs) (p:=[]) (xs:=xs) T (zjw T fuel) fields.toList 0 u hc hd cs rfl rfl (by rw [hl,c1]; rfl) (fun i f hif=>by
    have hif':fields[i]?=some f:=by rw [← Array.getElem?_toList]; exact hif
    have hlt:i<xs.length:=by rw [hxl]; exact (Array.getElem?_eq_some_iff.1 hif').1
    have q:=hx i f hif'
    rw [List.getElem?_eq_getElem hlt] at q
    refine ⟨_,List.getElem?_eq_getElem hlt,q,fun m hm=>hw m ?_⟩
    simp only [DataW.weights,hu]
    exact DataW.weights_mem_each (j:=i) (t:=f.type) (d:=xs[i].1) (by rw [List.getElem?_map,hif]; rfl) (by rw [List.getElem?_map,List.getElem?_eq_getElem hlt]; rfl) m hm)
   exact ⟨v,r1,r2⟩
  | ptr e0 =>
   have h8:=(z2f T h1 h3).2
   exfalso
   rw [← h2] at hd
   unfold z3c at h8
   split at h8 <;> rename_i q1 q2 q3 <;> first | (cases q1; done) | skip
   ·have q3':ty=_:=q3
    rw [q3'] at hd; cases hd
   ·cases h8
  | fn =>
   have h8:=(z2f T h1 h3).2
   exfalso
   rw [← h2] at hd
   unfold z3c at h8
   split at h8 <;> rename_i q1 q2 q3 <;> first | (cases q1; done) | skip
   ·have q3':ty=_:=q3
    rw [q3'] at hd; cases hd
   ·cases h8

theorem zzk (T:zb P E.ti=true) {t:TypeId} {v:Value} {d:DataW H} {p:List MemPlace} {r:Reach} {b0:Nat} (hd:(E.tyOf t).dat=true) (hv:Value.okWide P w r b0 t v) (h:DataW.Trod enc P w base spare held t v d p) (hw:∀ n∈d.weights P t,n≤reachBytes) :
  ∃ x:(E.tyOf t).T,(∃ cs,Rd w (Lt w) (E.tyOf t) x cs∧z1f (E.tyOf t) v cs)∧InR (E.tyOf t) x:=by
 obtain ⟨fuel,h⟩:=h
 obtain ⟨x,h1,h2⟩:=zjw T fuel t _ _ hd h hw
 refine ⟨x,⟨_,h1,?_⟩,h2⟩
 obtain ⟨ti,k1,k2,k3⟩:=z49 T (z9j hd)
 obtain ⟨sh,ty,b⟩:=ti
 have k2:ty=E.tyOf t:=k2
 have one:∀ {u:Ty},E.tyOf t=u→u.isSt=false→(∀ cs:Array Value,¬ Value.okWide P w r b0 t (.agg cs))→z1f (E.tyOf t) v v.cells.toList:=fun e hs hn=>by
  refine .inr ⟨by rw [e]; exact hs,?_⟩
  cases v with
  | agg cs=>exact absurd hv (hn cs)
  | _=>rfl
 cases sh with
 | oth=>exact absurd rfl k3
 | int k=>obtain ⟨hu,hty⟩:=zij T k1; exact one (k2.symm.trans hty) rfl fun cs h=>by simp [Value.okWide,Cell.okWide,Cell.ok,hu] at h
 | bool=>obtain ⟨hu,hty⟩:=zik T k1; exact one (k2.symm.trans hty) rfl fun cs h=>by simp [Value.okWide,Cell.okWide,Cell.ok,hu] at h
 | str=>obtain ⟨hu,hty⟩:=z96 T k1; exact one (k2.symm.trans hty) rfl fun cs h=>by simp [Value.okWide,Cell.okWide,Cell.ok,hu] at h
 | sl e0=>obtain ⟨hu,u0,hty,_⟩:=z6h T k1; exact one (k2.symm.trans hty) rfl fun cs h=>by simp [Value.okWide,Cell.okWide,Cell.ok,hu] at h
 | st fs =>
  obtain ⟨fields,u,hu,_,hty,_⟩:=zav T k1
  unfold Value.okWide at hv
  rw [hu] at hv
  obtain ⟨cs,rfl,_⟩:=hv
  exact .inl ⟨by rw [k2.symm.trans hty]; rfl,by simp [Value.cells]⟩
 | ptr e0 =>
  have h8:=(z2f T k1 k3).2
  exfalso
  rw [← k2] at hd
  unfold z3c at h8
  split at h8 <;> rename_i q1 q2 q3 <;> first | (cases q1; done) | skip
  ·have q3':ty=_:=q3
   rw [q3'] at hd; cases hd
  ·cases h8
 | fn =>
  have h8:=(z2f T k1 k3).2
  exfalso
  rw [← k2] at hd
  unfold z3c at h8
  split at h8 <;> rename_i q1 q2 q3 <;> first | (cases q1; done) | skip
  ·have q3':ty=_:=q3
   rw [q3'] at hd; cases hd
  ·cases h8
theorem zow (T:zb P E.ti=true) {t:TypeId} {c:Ty} (hc:E.tyOf t=c) {v:Value} {d:DataW H} {p:List MemPlace} {r:Reach} {b0:Nat} (hd:c.dat=true) (hv:Value.okWide P w r b0 t v) (h:DataW.Trod enc P w base spare held t v d p) (hw:∀ n∈d.weights P t,n≤reachBytes) :
  ∃ x:c.T,(∃ cs,Rd w (Lt w) c x cs∧z1f c v cs)∧InR c x:=by
 subst hc
 exact zzk T hd hv h hw
theorem zox {ts:List TypeId} {ds:List (DataW H)} (h:(DataW.weightsEach P ts ds).all (·≤reachBytes)=true) {j:Nat} {t:TypeId} {d:DataW H} (ht:ts[j]?=some t) (hd:ds[j]?=some d):∀ n∈d.weights P t,n≤reachBytes :=
 fun n hn=>of_decide_eq_true (List.all_eq_true.1 h n (DataW.weights_mem_each ht hd n hn))
theorem zzl [Glob P] {g : FuncId} {fn : Func} {c : Code} (hf : P.funcs[g]? = some fn) (hb : fn.body = some c) (hn : (fn.name == "runtime.NumGoroutine") = false) {ts : Ty} {F : ts.T → Option Bool} (H : zc P g ⟨ts, 1, .bool, F⟩) {args : List SVal} {vs : Array Value} (hG : Glob.ok P w) (ha : z6m w args vs.toList) {x : ts.T} (hx : z1p ts args some = some x) (hr : F x = some true) :
  Calls P g vs w fun e w'=>e=.returned (.bool true)∧Below w.heap.size w w':=by
 have:=H.1 (show (1:Nat)<RON by decide) args vs.toList w x true hG ha hx hr
 unfold z25 at this
 rw [z7l hf hb hn] at this
 refine Calls.mono this fun e w' h=>?_
 cases e with
 | returned v =>
  obtain ⟨l,h1,_,_,_,_,h2,h3⟩:=h
  have h2:z1f .bool v (z8 .bool l):=h2
  rcases h2 with ⟨h5,_⟩ | ⟨_,h5⟩
  ·cases h5
  ·have hl:l=true:=h1
   subst hl
   simp only [z8,List.cons.injEq,and_true] at h5
   exact ⟨by rw [← h5],h3.below⟩
 | panicked c=>exact h.elim
 | outgrown=>exact h.elim
end

section
variable {P : Program}
theorem zjx {i:IntKind} {args:List SVal} {x:(Ty.pr .str (.int i)).T} (h:z1p (.pr .str (.int i)) args some=some x):args=[⟨.str,x.1⟩,⟨.int i,x.2⟩]:=by
 match args with
 | []=>cases h
 | [a] =>
  simp only [z1p,zf] at h
  split at h <;> cases h
 | [a,b] =>
  simp only [z1p,zf] at h
  split at h
  ·rename_i e1
   split at h
   ·rename_i e2
    obtain ⟨ta,xa⟩:=a
    obtain ⟨tb,xb⟩:=b
    simp only at e1 e2 h
    subst e1
    subst e2
    cases h
    rfl
   ·cases h
  ·cases h
 | a::b::c::l =>
  simp only [z1p,zf] at h
  split at h <;> cases h
theorem zoy {k:IntKind} {w:World} (n:Int):Ret w 1 (.int k) n (.int k n) w :=
 ⟨n,rfl,fun _=>trivial,trivial,List.nodup_nil,by simp [z6],.inr ⟨rfl,rfl⟩,Kept.refl _ _⟩
theorem zjy {i:IntKind} {s:List UInt8} {n:Int} {w:World} {vs:List Value} (h:z6m w [⟨.str,s⟩,⟨.int i,n⟩] vs):vs=[.string ⟨s.toArray⟩,.int i n]:=by
 match vs with
 | []=>exact h.elim
 | [a]=>exact h.2.elim
 | [a,b] =>
  obtain ⟨⟨cs,h1,h2⟩,⟨ds,h3,h4⟩,_⟩:=h
  obtain rfl:cs=[.string ⟨s.toArray⟩]:=h1
  obtain rfl:ds=[.int i n]:=h3
  rcases h2 with ⟨h,_⟩ | ⟨_,h2⟩
  ·cases h
  rcases h4 with ⟨h,_⟩ | ⟨_,h4⟩
  ·cases h
  cases h2; cases h4; rfl
 | a::b::c::l=>exact h.2.2.elim

def fe_indexByteString:FE:=⟨.pr .str (.int .u8),1,.int .i64,fun x=>some (Lib.indexByte x.1 (x.2.toNat.toUInt8))⟩
theorem zzm [Glob P] {g : FuncId} {fn : Func} (hf : P.funcs[g]? = some fn) (hname : (fn.name == "runtime.NumGoroutine") = false)
  (hb:fn.body.isNone=true) (hn:Extern.findNext fn=none) (he:Extern.find fn=some Extern.BytealgIndexByte.indexByte):zc P g fe_indexByteString:=by
 refine zc.new rfl fun args vs w x r hG ha hx hr=>?_
 have e:=zjx hx
 subst e
 have e:=zjy ha
 subst e
 cases hr
 unfold z25
 rw [run_callFunc_extern hf hname hb hn he]
 rw [show (#[Value.string ⟨x.1.toArray⟩,Value.int .u8 x.2]:Array Value)=[Value.string ⟨x.1.toArray⟩,Value.int .u8 x.2].toArray from rfl] at *
 erw [Lib.run_indexByteString]
 exact zoy _
def fe_countString:FE:=⟨.pr .str (.int .u8),1,.int .i64,fun x=>some ((Lib.countByte x.1 (x.2.toNat.toUInt8):Nat):Int)⟩
theorem zzn [Glob P] {g : FuncId} {fn : Func} (hf : P.funcs[g]? = some fn) (hname : (fn.name == "runtime.NumGoroutine") = false)
  (hb:fn.body.isNone=true) (hn:Extern.findNext fn=none) (he:Extern.find fn=some Extern.BytealgCount.count):zc P g fe_countString:=by
 refine zc.new rfl fun args vs w x r hG ha hx hr=>?_
 have e:=zjx hx
 subst e
 have e:=zjy ha
 subst e
 cases hr
 unfold z25
 rw [run_callFunc_extern hf hname hb hn he]
 erw [Lib.run_countString]
 exact zoy _
end

noncomputable def rdG (E:Env) (rs:List ResultVar) (n:Nat) (t:Ty) (ho:Head) (σ:St):Option ho.T :=
 zcp E rs t σ fun _ y=>ho.raw ⟨[(0,(newT n t y NB).1)],(newT n t y NB).2,[]⟩ some

section
variable {P : Program} {E : Env} {w0 : World} {ok O : Nat → Prop} {σ : St} {tm : Array Value} {w : World} {M : Map}

theorem zoz {t:Ty} {l:L t} {s:SV} {v:Value} (hh:holds (Rd w0 ok) w t l) (hp:plain w t l) (hn:(z6 t l).Nodup)
  (hown:∀ k∈z6 t l,¬ ok k∧(O k∨w0.heap.size≤k)) (hokB:∀ k,ok k→k<w0.heap.size∧¬ O k) (hkept:Kept O w0 w)
  (hs:zi w0 ok ⟨z15 t l NB (fun _=>⟨.un,()⟩),fun _=>0,fun _=>0,fun _=>0⟩ s v) (hl:(∀ i∈s.roots,NB≤i∧i<zd t NB)∧s.boxes=[]) (hlt:zd t NB≤PIN) :
  Rep E w0 ok O ⟨[(0,s)],(zo t (erase t l) NB).2.1,[]⟩ #[v] w ⟨z15 t l NB (fun _=>⟨.un,()⟩),fun _=>0,fun _=>0,fun _=>0⟩ where
 slots:=fun i x hx=>by
  rw [zn] at hx
  split at hx
  ·rename_i e
   subst e
   cases hx
   exact ⟨v,rfl,hs⟩
  ·cases hx
 rows:=fun i r hr=>by
  obtain ⟨hz,l',h1,h2⟩:=z6j t l NB (fun _=>⟨.un,()⟩) i r hr
  exact ⟨l',h1,h2.er,h2.ho _ _ hh,h2.bl.nodup hn,fun _=>h2.pl _ hp⟩
 boxes:=fun i b h=>by cases h
 rr:=fun i j hij hi hj k hk=>by
  obtain ⟨h1,h2⟩:=(z3n t (erase t l) NB i).1 hi
  obtain ⟨h3,h4⟩:=(z3n t (erase t l) NB j).1 hj
  exact (zd4 t l NB _ hn i j hij h1 h2 h3 h4 k hk).2
 bb:=fun i j _ ⟨b,h⟩=>by cases h
 rb:=fun i j _ ⟨b,h⟩=>by cases h
 ownR:=fun i ⟨r,hr⟩ k hk=>by
  obtain ⟨hz,l',h1,h2⟩:=z6j t l NB (fun _=>⟨.un,()⟩) i r hr
  have hk':k∈z6 (z15 t l NB (fun _=>⟨.un,()⟩) i).1 (z15 t l NB (fun _=>⟨.un,()⟩) i).2:=hk
  rw [h1] at hk'
  exact hown k (h2.bl.subset hk')
 ownB:=fun i ⟨b,h⟩=>by cases h
 okB:=hokB
 liveS:=fun i x hx=>by
  rw [zn] at hx
  split at hx
  ·cases hx
   exact ⟨fun i hi=>(z3n t (erase t l) NB i).2 (hl.1 i hi),fun i hi=>by rw [hl.2] at hi; cases hi⟩
  ·cases hx
 liveB:=fun i b h=>by cases h
 kept:=hkept
 pin:=fun i hi ⟨r,hr⟩=>by
  have:=(z3n t (erase t l) NB i).1 ⟨r,hr⟩
  omega
 pinB:=fun i hi ⟨b,h⟩=>by cases h
theorem zp0 {n:Nat} {t:Ty} {l:L t} {v:Value} (hv:zd6 n t l v) (h0:0<n) (hh:holds (Rd w0 ok) w t l) (hp:plain w t l) (hn:(z6 t l).Nodup)
  (hown:∀ k∈z6 t l,¬ ok k∧(O k∨w0.heap.size≤k)) (hokB:∀ k,ok k→k<w0.heap.size∧¬ O k) (hkept:Kept O w0 w) (hlt:zd t NB≤PIN) :
  ∃ M',Rep E w0 ok O ⟨[(0,(newT n t (erase t l) NB).1)],(newT n t (erase t l) NB).2,[]⟩ #[v] w M':=by
 match n,hv with
 | 1,hv =>
  refine ⟨_,zoz hh hp hn hown hokB hkept (z1m (z7d t l NB (fun _=>⟨.un,()⟩) hh fun _ _ _=>rfl) ?_) (z7e t _ NB) hlt⟩
  have e:(newT 1 t (erase t l) NB).1.isSt=t.isSt:=zf5 t _ NB
  unfold z2h
  rw [e]
  exact hv
 | m+2,hv =>
  obtain ⟨vs,rfl,h⟩:=hv
  obtain ⟨h1,h2⟩:=z7e t (erase t l) NB
  obtain ⟨h3,h4⟩:=ziu (m+2) (zo t (erase t l) NB).1
  exact ⟨_,zoz (s:=.tup (z1x (m+2) (zo t (erase t l) NB).1)) hh hp hn hown hokB hkept ⟨vs,rfl,zit (m+2) t l NB (fun _=>⟨.un,()⟩) vs.toList hh (Nat.succ_pos _) (fun _ _ _=>rfl) h⟩ ⟨fun i hi=>h1 i (h3 i hi),h4 h2⟩ hlt⟩

theorem zzo (T:zb P E.ti=true) (R:Rep E w0 ok O σ tm w M) {fn:Func} {rs:List ResultVar} (hr:fn.results.toList=rs) {n:Nat} (hn:rs.length=n) (h0:0<n) {t:Ty} (hlt:zd t NB≤PIN) {ho:Head} (hok:ho.ok=true) {y:ho.T} (h:rdG E rs n t ho σ=some y) :
  ∃ v M',(results fn tm).run P w=.ok v w∧Rep E w0 ok O (ho.fill y) #[v] w M':=by
 unfold rdG at h
 obtain ⟨σ2,l,vs2,g1,g2,g3,g4,g6,g5⟩:=zjo T R h
 obtain ⟨M',R'⟩:=zp0 (E:=E) (n:=n) (zoa (zjp g6) hn g5) h0 g2 g3 g4.free.nd g4.free.own R.okB R.kept hlt
 obtain ⟨y',e1,e2⟩:=zjs R' hok g1
 cases e1
 exact ⟨_,M',zdi hr g6,e2⟩

structure FnG (P:Program) (ti:List TI) (tab:List (Nat×FE)) (opn:Nat→Option (FuncId×OC)) (g:FuncId) (c:OC) (n:Nat) (t:Ty):Prop where
 hi:c.hi.ok=true
 ho:c.ho.ok=true
 ch:(!(ti.any fun i=>!i.ty.noRd)||c.ch)=true
 pos:Nat.blt 0 n=true
 lt:Nat.ble (zd t NB) PIN=true
 ex : ∃ (fn : Func) (cd : Code) (rs : List ResultVar) (LO : Oracles c.ho.T), P.funcs[g]? = some fn ∧ fn.body = some cd ∧ (fn.name == "runtime.NumGoroutine") = false ∧ fn.results.toList = rs ∧ rs.length = n ∧ c.hi.sl.length ≤ fn.ntmps ∧
  ∀ pins pinB,CodeOK (zq ti tab opn pins pinB) LO (rdG (zq ti tab opn pins pinB) rs n t c.ho) fn.ntmps cd ∧
   ∀ x,evC (zq ti tab opn pins pinB) LO (rdG (zq ti tab opn pins pinB) rs n t c.ho) cd (c.hi.fill x) (rdG (zq ti tab opn pins pinB) rs n t c.ho) (fun _ _=>none)=c.F x

theorem FnG.contract [Glob P] {ti:List TI} {tab:List (Nat×FE)} {opn:Nat→Option (FuncId×OC)} (T:zb P ti=true) (HT:z52 ti=true) (hmix:P.follows .mixedOrders=true) (S:∀ e∈tab,zc P e.1 e.2) (KO:∀ s g c,opn s=some (g,c)→z17 P ti g c) {g:FuncId} {c:OC} {n:Nat} {t:Ty}
  (H:FnG P ti tab opn g c n t):z17 P ti g c:=by
 refine ⟨H.hi,fun E hE x y hF w ok O M vs hlen G R=>?_⟩
 obtain ⟨fn,cd,rs,LO,h1,h2,h3,h4,hlenr,h5,h6⟩:=H.ex
 obtain ⟨h7,h8⟩:=h6 E.pins E.pinB
 have R1:Rep (zq ti tab opn E.pins E.pinB) w ok O (c.hi.fill x) vs.toArray w M:=R.env (fun t=>(hE t).symm) rfl rfl
 have K:z2l P (zq ti tab opn E.pins E.pinB) w O:=zgc KO G
 have EQ:z1v P (zq ti tab opn E.pins E.pinB):=z1v.of T HT
 have SS:SpecOK P (zq ti tab opn E.pins E.pinB) w O:=SpecOK.of S G
 unfold z25
 rw [z7l h1 h2 h3]
 simp only []
 refine calls_of_wp h1 h2 ?_
 have hrd:∀ e:Exit,(e=.normal∨e=.ret)→z1k (zq ti tab opn E.pins E.pinB) w ok O y fn.ntmps (rdG (zq ti tab opn E.pins E.pinB) rs n t c.ho) (bodyPost P fn (fun | .returned v,w''=>∃ M' w2 ok2 O2,z2i c.ch w ok O w2 ok2 O2∧Rep E w2 ok2 O2 (c.ho.fill y) #[v] w'' M' | _,_=>False) e):=by
  intro e he w2 ok2 O2 hc σ1 a1 w1 M1 hk R1 hn1 hd1
  obtain ⟨v,M2,g1,g2⟩:=zzo T R1 h4 hlenr (Nat.le_of_ble_eq_true H.pos) (Nat.le_of_ble_eq_true H.lt) H.ho hk
  have hb:a1.defers=[]∧∃ v,(results fn a1.tmps).run P w1=.ok v w1∧∃ M' w2 ok2 O2,z2i c.ch w ok O w2 ok2 O2∧Rep E w2 ok2 O2 (c.ho.fill y) #[v] w1 M':=⟨hd1,v,g1,M2,_,_,_,hc.up (by simpa [Env.rdm,zq] using H.ch),g2.env hE rfl rfl⟩
  rcases he with rfl | rfl
  ·exact hb
  ·exact hb
 have hev:=h8 x
 rw [hF] at hev
 have R2:Rep (zq ti tab opn E.pins E.pinB) w ok O (c.hi.fill x) (vs.toArray++Array.replicate (fn.ntmps-vs.toArray.size) undef) w M :=
  R1.slotsTo fun s v hv=>by
   obtain ⟨u,e1,e2⟩:=R1.slots s v hv
   exact ⟨⟨u,by rw [Array.getElem?_append_left (Array.getElem?_eq_some_iff.1 e1).1]; exact e1,e2⟩,R1.liveS s v hv⟩
 refine zdh T EQ SS K hmix h7 hev R2 (by simp only [Array.size_append,Array.size_replicate,List.size_toArray,hlen]; omega) rfl (hrd _ (.inl rfl)) (fun id=>?_) (hrd _ (.inr rfl))
 intro w2 ok2 O2 hc σ1 a1 w1 M1 hk
 cases hk
end

section
variable {P : Program}
theorem zp1 {w w':World} (l:List UInt8) (h:Below w.heap.size w w'):Ret w 1 .str l (.string ⟨l.toArray⟩) w' :=
 ⟨l,rfl,fun _=>trivial,trivial,List.nodup_nil,by simp [z6],.inr ⟨rfl,rfl⟩,Kept.of_below h _⟩
def fe_repeat:FE:=⟨.pr .str (.int .i64),1,.str,fun x=>if 0≤x.2∧x.2≤9223372036854775807∧List.length x.1*x.2.toNat≤140737488355328 then some (Lib.repeatL x.1 x.2.toNat) else none⟩
theorem zzp [Glob P] {g : FuncId} {fn : Func} {cd : Code} (hf : P.funcs[g]? = some fn) (hb : fn.body = some cd) (hname : (fn.name == "runtime.NumGoroutine") = false)
  (H:∀ (s:ByteArray) (c:Nat) (w:World),c≤9223372036854775807→s.size*c≤140737488355328→Calls P g #[.string s,.int .i64 c] w fun e w'=>e=.returned (.string ⟨(Lib.repeatL s.data.toList c).toArray⟩)∧Below w.heap.size w w'):zc P g fe_repeat:=by
 refine zc.new rfl fun args vs w x r hG ha hx hr=>?_
 have e:=zjx hx
 subst e
 have e:=zjy ha
 subst e
 obtain ⟨s,c⟩:=x
 simp only [fe_repeat] at hr
 split at hr
 ·rename_i hc
  cases hr
  obtain ⟨n,rfl⟩:=Int.eq_ofNat_of_zero_le hc.1
  unfold z25
  rw [z7l hf hb hname]
  have h1:n≤9223372036854775807:=by have:(n:Int)≤9223372036854775807:=hc.2.1; omega
  have h2:(⟨s.toArray⟩:ByteArray).size*n≤140737488355328:=by
   have:List.length s*(n:Int).toNat≤140737488355328:=hc.2.2
   simpa [ByteArray.size] using this
  refine (H ⟨s.toArray⟩ n w h1 h2).mono fun e w' ⟨he,hw⟩=>?_
  subst he
  exact zp1 _ hw
 ·cases hr
end

section
variable {P : Program} {E : Env} {R0 : Type}
theorem xTn [Glob P]:∀ e∈([]:List (Nat×FE)),zc P e.1 e.2:=List.forall_mem_nil _
theorem xTc [Glob P] {g:Nat} {fe:FE} {l:List (Nat×FE)} (h:zc P g fe) (k:∀ e∈l,zc P e.1 e.2):∀ e∈(g,fe)::l,zc P e.1 e.2:=List.forall_mem_cons.2 ⟨h,k⟩
theorem xOn [Glob P] {ti:List TI}:∀ x∈([]:List (Nat×FuncId×OC)),z17 P ti x.2.1 x.2.2:=List.forall_mem_nil _
theorem xOc [Glob P] {ti:List TI} (d:Nat) {g:FuncId} {c:OC} {l:List (Nat×FuncId×OC)} (h:z17 P ti g c) (k:∀ x∈l,z17 P ti x.2.1 x.2.2):∀ x∈(d,g,c)::l,z17 P ti x.2.1 x.2.2:=List.forall_mem_cons.2 ⟨h,k⟩
structure LD (R:Type) where
 n:Nat
 h:Head
 ex:List (Nat×Head)
 F:Nat→h.T→(Nat→St→Option R)→Option R
 N:Nat
def orc (d:LD R0) (O:Oracles R0):Oracles R0:=⟨fun m=>bif Nat.beq m d.n then some (fun σ kx=>d.h.get σ fun x=>d.F d.N x kx) else O.loop m,O.cut⟩
def z5r (E:Env) (LO:Oracles R0) (rd:St→Option R0) (l:List Code) (i:Nat):Prop:=∀ j,i≤j→∀ b,l[j]?=some b→∀ f,LO.loop (z43 b)=some f→zg0 E LO rd b f
theorem xLn {LO:Oracles R0} {rd:St→Option R0} {l:List Code} {i:Nat} (h:Nat.ble l.length i=true:=by kernel_rfl):z5r E LO rd l i:=by
 intro j hj b hb
 have:=(List.getElem?_eq_some_iff.1 hb).1
 have:=Nat.le_of_ble_eq_true h
 omega
theorem xLa {LO:Oracles R0} {rd:St→Option R0} {l:List Code} {i:Nat} (h:∀ b,l.getD i .skip=b→∀ f,LO.loop (z43 b)=some f→zg0 E LO rd b f) (k:z5r E LO rd l (i+1)):z5r E LO rd l i:=by
 intro j hj b hb
 rcases Nat.eq_or_lt_of_le hj with e | e
 ·subst e
  exact h b (by rw [List.getD_eq_getElem?_getD,hb]; rfl)
 ·exact k j e b hb
theorem xLo {LO:Oracles R0} {rd:St→Option R0} {l:List Code} {i:Nat} (d:LD R0) (hs:∀ n x kx,d.F (n+1) x kx=evC E LO rd (l.getD i .skip) (d.h.fill x) (fun σ=>d.h.get σ fun x'=>d.F n x' kx) (zco d.ex kx)) (k:z5r E LO rd l (i+1))
  (h1:LO.loop (z43 (l.getD i .skip))=some (fun σ kx=>d.h.get σ fun x=>d.F d.N x kx):=by kernel_rfl) (h2:d.h.ok=true:=by kernel_rfl) (h3:d.ex.all (fun x=>x.2.ok)=true:=by kernel_rfl) (h4:∀ x kx,d.F 0 x kx=none:=by intros; kernel_rfl):z5r E LO rd l i :=
 xLa (fun b e f hf=>by subst e; rw [h1] at hf; cases hf; exact ⟨d.h,d.ex,d.F,d.N,h2,h3,h4,hs,fun σ kx=>rfl⟩) k
theorem xLs {LO:Oracles R0} {rd:St→Option R0} {l:List Code} {i:Nat} (k:z5r E LO rd l (i+1)) (h1:LO.loop (z43 (l.getD i .skip))=none:=by kernel_rfl):z5r E LO rd l i :=
 xLa (fun b e f hf=>by subst e; rw [h1] at hf; cases hf) k
theorem z5r.all {LO:Oracles R0} {rd:St→Option R0} {l:List Code} (h:z5r E LO rd l 0):∀ b∈l,∀ f,LO.loop (z43 b)=some f→zg0 E LO rd b f:=by
 intro b hb
 obtain ⟨i,hi⟩:=List.getElem?_of_mem hb
 exact h i (Nat.zero_le _) b hi
theorem okC [Glob P] {ti:List TI} (A:zb P ti=true∧z52 ti=true∧P.follows .mixedOrders=true) {tab:List (Nat×FE)} {l:List (Nat×FuncId×OC)} (S:∀ e∈tab,zc P e.1 e.2) (KO:∀ x∈l,z17 P ti x.2.1 x.2.2) {g:FuncId} {ts:Ty} {n:Nat} {t:Ty} {F:ts.T→Option t.T}
  (f:Func) (O:Oracles t.T) (L:z5r (zq ti tab (lk l) z36 z38) O (rdC (zq ti tab (lk l) z36 z38) f.results.toList t) (z4e (z3p f)) 0)
  (hF:∀ x,evC (zq ti tab (lk l) z36 z38) O (rdC (zq ti tab (lk l) z36 z38) f.results.toList t) (z3p f) ⟨z4x ts x 0,[],[]⟩ (rdC (zq ti tab (lk l) z36 z38) f.results.toList t) (fun _ _=>none)=F x)
  (h1 : P.funcs[g]? = some f := by kernel_rfl) (h2 : f.body = some (z3p f) := by kernel_rfl) (h3 : (f.name == "runtime.NumGoroutine") = false := by kernel_rfl) (h4 : f.results.toList.length = n := by kernel_rfl) (h5 : z4f ts ≤ f.ntmps := by decide)
  (h6:z4d f.ntmps (z3p f)=true:=by kernel_rfl) (h7:(fun n=>O.cut n)=(fun _=>none):=by kernel_rfl) (hn:Nat.blt n RON=true:=by kernel_rfl):zc P g ⟨ts,n,t,F⟩ :=
 zzg A.1 A.2.1 A.2.2 S KO ⟨⟨f,z3p f,_,O,h1,h2,h3,rfl,h4,h5,⟨h6,L.all,zjv h7⟩,hF⟩⟩ hn
theorem okB [Glob P] {ti:List TI} (A:zb P ti=true∧z52 ti=true∧P.follows .mixedOrders=true) {tab:List (Nat×FE)} {l:List (Nat×FuncId×OC)} (S:∀ e∈tab,zc P e.1 e.2) (KO:∀ x∈l,z17 P ti x.2.1 x.2.2) {g:FuncId} {ts:Ty} {n:Nat} {t:Ty} {F:ts.T→Option t.T}
  (f:Func) (O:Oracles t.T) (L:z5r (zq ti tab (lk l) z36 z38) O (rdB (zq ti tab (lk l) z36 z38) f.results.toList (n-NBN) t) (z4e (z3p f)) 0)
  (hF:∀ x,evC (zq ti tab (lk l) z36 z38) O (rdB (zq ti tab (lk l) z36 z38) f.results.toList (n-NBN) t) (z3p f) ⟨z4x ts x 0,[],[]⟩ (rdB (zq ti tab (lk l) z36 z38) f.results.toList (n-NBN) t) (fun _ _=>none)=F x)
  (h0 : (zq ti tab (lk l) z36 z38).rdm = false := by kernel_rfl) (h1 : P.funcs[g]? = some f := by kernel_rfl) (h2 : f.body = some (z3p f) := by kernel_rfl) (h3 : (f.name == "runtime.NumGoroutine") = false := by kernel_rfl) (h5 : z4f ts ≤ f.ntmps := by decide)
  (h6:z4d f.ntmps (z3p f)=true:=by kernel_rfl) (h7:(fun n=>O.cut n)=(fun _=>none):=by kernel_rfl) (hn:Nat.blt RON n=true:=by kernel_rfl):zc P g ⟨ts,n,t,F⟩ :=
 zzj A.1 A.2.1 A.2.2 S KO ⟨h0,f,z3p f,_,O,h1,h2,h3,rfl,h5,⟨h6,L.all,zjv h7⟩,hF⟩ hn rfl
theorem okO [Glob P] {ti:List TI} (A:zb P ti=true∧z52 ti=true∧P.follows .mixedOrders=true) {tab:List (Nat×FE)} {l:List (Nat×FuncId×OC)} (S:∀ e∈tab,zc P e.1 e.2) (KO:∀ x∈l,z17 P ti x.2.1 x.2.2) {g:FuncId} {c:OC}
  (f:Func) (O:Oracles c.ho.T) (L:∀ pins pinB,z5r (zq ti tab (lk l) pins pinB) O (rdO (zq ti tab (lk l) pins pinB) f.results.toList c.ho) (z4e (z3p f)) 0)
  (hF:∀ pins pinB x,evC (zq ti tab (lk l) pins pinB) O (rdO (zq ti tab (lk l) pins pinB) f.results.toList c.ho) (z3p f) (c.hi.fill x) (rdO (zq ti tab (lk l) pins pinB) f.results.toList c.ho) (fun _ _=>none)=c.F x)
  (hi : c.hi.ok = true := by kernel_rfl) (ho : c.ho.ok = true := by kernel_rfl) (ch : (!(ti.any fun i => !i.ty.noRd) || c.ch) = true := by kernel_rfl) (h1 : P.funcs[g]? = some f := by kernel_rfl) (h2 : f.body = some (z3p f) := by kernel_rfl) (h3 : (f.name == "runtime.NumGoroutine") = false := by kernel_rfl) (h5 : Nat.ble c.hi.sl.length f.ntmps = true := by kernel_rfl)
  (h6:z4d f.ntmps (z3p f)=true:=by kernel_rfl) (h7:(fun n=>O.cut n)=(fun _=>none):=by kernel_rfl):z17 P ti g c :=
 zzh A.1 A.2.1 A.2.2 S KO ⟨hi,ho,ch,f,z3p f,_,O,h1,h2,h3,rfl,Nat.le_of_ble_eq_true h5,fun pins pinB=>⟨⟨h6,(L pins pinB).all,zjv h7⟩,hF pins pinB⟩⟩
end
end Go.Proofs.YtjbnebolfnjneaaGreatDoor.Ev

/- slices.Insert at elements of any flat make: its roads, walked once. Over any program. -/
namespace Go.Proofs.YtjbnebolfnjneaaGreatDoor.Ev
open Go.Shelf Go.RowKit Go.Lib Go.Proofs
variable {P : Program} {ρ : Ren}

theorem zgg (w:World) (dT sT ty elem:TypeId) (K b o dLen dCap:Nat) (a:Addr) (sLen sCap:Nat) (cs:List Value)
  (hu:P.underlying dT=some (.slice elem)) (hs:(P.info? elem).map (·.size)=some K) (hn:cs.length=Nat.min sLen dLen*K)
  (hsrc:∀ j v,cs[j]?=some v→w.cell? (a.add j)=some v) (hc:∀ j,j<cs.length→(w.cell? ⟨b,o+j,none⟩).isSome=true) (hf:∀ j,j<cs.length→w.frozen? ⟨b,o+j,none⟩=false) (h1:∀ v∈cs,v.oneCell'=true) :
  (Builtin.copy_ #[dT,sT] ty #[.slice (some ⟨b,o,none⟩) dLen dCap,.slice (some a) sLen sCap]).run P w=.ok (goInt (Nat.min sLen dLen)) (w.setCells b o cs):=by
 have hl:=run_loadCells_list (P:=P) w a cs hsrc
 have hst:=run_storeCells_cells (P:=P) b o cs 0 w (by simpa using hc) (by simpa using hf) h1
 cases hq:P.info? elem with
 | none=>simp [hq] at hs
 | some i =>
  have hi:i.size=K:=by simpa [hq] using hs
  simp [Builtin.copy_,run_underlying hu,Builtin.lenOf,Builtin.firstCells,sizeOf,typeInfo,hq,hi,← hn,hl,hst]
structure InsOK (P:Program) (ρ:Ren) (e:TypeId) (i0:TypeInfo) (z:Value):Prop where
 f22:Bears P (ρ.f 22) (Body2.n22 ρ)
 ov:∀ vs w,(callFunc (ρ.f 29) vs).run P w=((Extern.SlicesOverlaps.overlaps #[ρ.t 24,ρ.t 24] #[ρ.t 4] vs).run P w).andThen fun v w'=>.ok (.value v) w'
 mixed:P.follows .mixedOrders=true
 t3:P.underlying (ρ.t 3)=some (TypeDesc.int IntKind.i64)
 a3:∀ w,(isAgg (ρ.t 3)).run P w=.ok false w
 t4:P.underlying (ρ.t 4)=some (TypeDesc.bool)
 a4:∀ w,(isAgg (ρ.t 4)).run P w=.ok false w
 t24:P.underlying (ρ.t 24)=some (TypeDesc.slice e)
 a24:∀ w,(isAgg (ρ.t 24)).run P w=.ok false w
 i9:P.info? e=some i0
 z0:i0.zero=some z
 sz:0<i0.size
 zs:z.cells.size=i0.size

set_option maxHeartbeats 4000000 in
set_option maxRecDepth 100000 in
theorem zzq {e:TypeId} {i0:TypeInfo} {z:Value} (L:InsOK P ρ e i0 z) (K:Nat) (hK:i0.size=K) (b off n c i vb voff m vc:Nat) (cs vs:List Value) (w:World) (hi:i<n) (hm:0<m) (hroom:n+m≤c) (hc63:c≤9223372036854775807) (hvb:vb≠b)
  (hcl:cs.length=n*K) (hvl:vs.length=m*K)
  (hcs:∀ j v,cs[j]?=some v→w.cell? ⟨b,off+j,none⟩=some v) (hsp:∀ j,j<(n+m)*K→(w.cell? ⟨b,off+j,none⟩).isSome=true) (hfz:∀ j,j<(n+m)*K→w.frozen? ⟨b,off+j,none⟩=false)
  (hvs:∀ j v,vs[j]?=some v→w.cell? ⟨vb,voff+j,none⟩=some v) (h1c:∀ v∈cs,v.oneCell'=true) (h1v:∀ v∈vs,v.oneCell'=true)
  (tA tB:TypeId) (kA kB:Nat) (hsa:w.shape? vb=some (tA,kA)) (hsb:w.shape? b=some (tB,kB)) (hkB:kB≠0) (hfa:w.frozen? ⟨vb,voff,none⟩=false) (hfe:w.frozen? ⟨vb,kA,none⟩=false) :
  Calls P (ρ.f 22) #[.slice (some ⟨b,off,none⟩) n c,.int .i64 i,.slice (some ⟨vb,voff,none⟩) m vc] w fun e w' =>
   e=.returned (.slice (some ⟨b,off,none⟩) (n+m) c)∧w'=(w.drew.setCells b (off+(i+m)*K) (cs.drop (i*K))).setCells b (off+i*K) vs:=by
 have t3:=L.t3; have a3:=L.a3; have t4:=L.t4; have a4:=L.a4; have t24:=L.t24; have a24:=L.a24
 have u3:=run_underlying L.t3; have u4:=run_underlying L.t4; have u24:=run_underlying L.t24
 have z9:∀ w,(Go.sizeOf e).run P w=.ok K w:=fun w=>by simp [sizeOf,typeInfo,L.i9,hK]
 have hz1:¬ ((m:Int)=0):=by omega
 have hz2:¬ ((i:Int)=(n:Int)):=by omega
 have hsz:(P.info? e).map (·.size)=some K:=by rw [L.i9]; simp [hK]
 have hov:∀ lb cb,(callFunc (ρ.f 29) #[.slice (some ⟨vb,voff,none⟩) m vc,.slice (some ⟨b,off+(i+m)*K,none⟩) lb cb]).run P w=.ok (.value (.bool false)) w:=fun lb cb=>by
  rw [L.ov,Lib.run_overlaps_apart w (ρ.t 24) (ρ.t 4) e L.t24 K z9 ⟨vb,voff,none⟩ ⟨b,off+(i+m)*K,none⟩ m vc lb cb hvb tA tB kA kB hsa hsb hkB hfa hfe]
  rfl
 have hiK:i*K+(n-i)*K=n*K:=by rw [← Nat.add_mul,Nat.add_sub_cancel' (Nat.le_of_lt hi)]
 have hdl:(cs.drop (i*K)).length=(n-i)*K:=by rw [List.length_drop,hcl]; omega
 have hsum:(i+m)*K+(n-i)*K=(n+m)*K:=by rw [← Nat.add_mul]; congr 1; omega
 have hsum2:i*K+m*K≤(n+m)*K:=by rw [← Nat.add_mul]; exact Nat.mul_le_mul_right _ (by omega)
 have mixed:=L.mixed
 have hw1:IntKind.i64.wrap ((i:Int)+(m:Int))=(i:Int)+(m:Int):=by rw [IntKind.wrap_i64]; omega
 have hb1:(0:Int)≤(i:Int)+(m:Int):=by omega
 have hin:i≤n:=by omega
 have htn:((i:Int)+(m:Int)).toNat=i+m:=by omega
 have hb2:¬ (c=i+m):=by omega
 have hb3:(i:Int)≤(n:Int)+(m:Int):=by omega
 have hb4:¬ (c=i):=by omega
 have hcp1:∀ ty dc sc,(Builtin.copy_ #[(ρ.t 24),(ρ.t 24)] ty #[.slice (some ⟨b,off+(i+m)*K,none⟩) (n+m-(i+m)) dc,.slice (some ⟨b,off+i*K,none⟩) (n+m-i) sc]).run P w.drew=.ok (goInt ((n-i:Nat):Int)) (w.drew.setCells b (off+(i+m)*K) (cs.drop (i*K))):=fun ty dc sc=>by
  have hmin:Nat.min (n+m-i) (n+m-(i+m))=n-i:=by simp only [Nat.min_def]; split <;> omega
  have:=zgg w.drew (ρ.t 24) (ρ.t 24) ty e K b (off+(i+m)*K) (n+m-(i+m)) dc ⟨b,off+i*K,none⟩ (n+m-i) sc (cs.drop (i*K)) L.t24 hsz (by rw [hdl,hmin])
   (fun j v hj=>by rw [Addr.add_lit,Nat.add_assoc]; exact hcs (i*K+j) v (by rwa [List.getElem?_drop] at hj))
   (fun j hj=>by rw [Nat.add_assoc]; exact hsp _ (by rw [hdl] at hj; omega)) (fun j hj=>by rw [Nat.add_assoc]; exact hfz _ (by rw [hdl] at hj; omega)) (fun v hv=>h1c v (List.mem_of_mem_drop hv))
  rw [hmin] at this
  exact this
 obtain ⟨W1,hW1⟩:∃ W1,W1=w.drew.setCells b (off+(i+m)*K) (cs.drop (i*K)):=⟨_,rfl⟩
 have hsp1:∀ k,k<(n+m)*K→(W1.cell? ⟨b,off+k,none⟩).isSome=true:=fun k hk=>by
  rw [hW1]
  exact isSome_setCells b _ _ _ (fun j hj=>by rw [Nat.add_assoc]; exact hsp _ (by rw [hdl] at hj; omega)) _ (hsp k hk)
 have hcp2:∀ (W:World),(∀ x,W.cell? x=W1.cell? x)→(∀ x,W.frozen? x=W1.frozen? x)→∀ ty dc,(Builtin.copy_ #[(ρ.t 24),(ρ.t 24)] ty #[.slice (some ⟨b,off+i*K,none⟩) (n+m-i) dc,.slice (some ⟨vb,voff,none⟩) m vc]).run P W=.ok (goInt m) (W.setCells b (off+i*K) vs):=fun W hWc hWf ty dc=>by
  have hmin:Nat.min m (n+m-i)=m:=by simp only [Nat.min_def]; split <;> omega
  have:=zgg W (ρ.t 24) (ρ.t 24) ty e K b (off+i*K) (n+m-i) dc ⟨vb,voff,none⟩ m vc vs L.t24 hsz (by rw [hvl,hmin])
   (fun j v hj=>by
    rw [Addr.add_lit,hWc,hW1,World.cell?_setCells_out b _ _ _ _ (fun h _=>absurd h hvb)]
    exact hvs j v hj)
   (fun j hj=>by rw [hWc,Nat.add_assoc]; exact hsp1 _ (by omega)) (fun j hj=>by rw [hWf,hW1,World.frozen?_setCells,Nat.add_assoc]; exact hfz _ (by omega)) h1v
  rw [hmin] at this
  exact this
 rw [← hW1] at hcp1
 obtain ⟨nm,hnm,F22⟩:=L.f22
 go_enter F22,Body2.n22_ntmps ρ
 go_wp2_with (simp only [hov])
 go_region_law_o (refine step_copy_runI rfl _ _ (ρ.t 24) (ρ.t 24) rfl _ _ (by simp [Act.eval,Act.put]) (by simp [Act.eval,Act.put]) (hcp1 _ _ _) ?_)
 go_wp2_with (at_builtin; refine wpList_copy_runI _ rfl _ _ (ρ.t 24) (ρ.t 24) rfl _ _ rfl rfl (hcp2 _ (fun _=>rfl) (fun _=>rfl) _ _) ?_)
 go_ret
 first | exact ⟨rfl,rfl⟩ | exact ⟨rfl,by rw [hW1]⟩

set_option maxHeartbeats 4000000 in
set_option maxRecDepth 100000 in
theorem zzr {e:TypeId} {i0:TypeInfo} {z:Value} (L:InsOK P ρ e i0 z) (K:Nat) (hK:i0.size=K) (b off n c vb voff m vc:Nat) (vs:List Value) (w:World) (hm:0<m) (hroom:n+m≤c) (hc63:c≤9223372036854775807)
  (hvl:vs.length=m*K) (hsp:∀ j,j<m*K→(w.cell? ⟨b,off+n*K+j,none⟩).isSome=true) (hfz:∀ j,j<m*K→w.frozen? ⟨b,off+n*K+j,none⟩=false)
  (hvs:∀ j v,vs[j]?=some v→w.cell? ⟨vb,voff+j,none⟩=some v) (h1v:∀ v∈vs,v.oneCell'=true) :
  Calls P (ρ.f 22) #[.slice (some ⟨b,off,none⟩) n c,.int .i64 n,.slice (some ⟨vb,voff,none⟩) m vc] w fun e w' =>
   e=.returned (.slice (some ⟨b,off,none⟩) (n+m) c)∧w'=w.setCells b (off+n*K) vs:=by
 have t3:=L.t3; have a3:=L.a3; have t4:=L.t4; have a4:=L.a4; have t24:=L.t24; have a24:=L.a24
 have u3:=run_underlying L.t3; have u4:=run_underlying L.t4; have u24:=run_underlying L.t24
 have z9:∀ w,(Go.sizeOf e).run P w=.ok K w:=fun w=>by simp [sizeOf,typeInfo,L.i9,hK]
 have mixed:=L.mixed
 have hz1:¬ ((m:Int)=0):=by omega
 have hsrc:Src P i0.size (ρ.t 24) (.slice (some ⟨vb,voff,none⟩) m vc) m vs w:=Src.ofSlice w L.t24 ⟨vb,voff,none⟩ m vc vs (by rw [hvl,hK]) (fun j u hj=>by rw [Addr.add_lit]; exact hvs j u hj) h1v
 have hrun:∀ ty,(Builtin.append_ #[(ρ.t 24),(ρ.t 24)] ty #[.slice (some ⟨b,off,none⟩) n c,.slice (some ⟨vb,voff,none⟩) m vc]).run P w=.ok (.slice (some ⟨b,off,none⟩) (n+m) c) (w.setCells b (off+n*K) vs):=fun ty=>by
  have:=run_append_room_src (P:=P) w (ρ.t 24) (ρ.t 24) ty e i0 L.t24 L.i9 b off n c _ m vs hsrc hroom (by rw [hvl,hK]; exact hsp) (by rw [hvl,hK]; exact hfz)
  rw [hK] at this
  exact this
 obtain ⟨nm,hnm,F22⟩:=L.f22
 go_enter F22,Body2.n22_ntmps ρ
 go_wp2_with (at_builtin; refine Lib.wpList_append_run _ rfl _ _ _ _ rfl _ _ rfl rfl _ _ (hrun _) ?_)
 go_ret
 exact ⟨rfl,rfl⟩

set_option maxHeartbeats 4000000 in
set_option maxRecDepth 100000 in
theorem zzs {e:TypeId} {i0:TypeInfo} {z:Value} (L:InsOK P ρ e i0 z) (K:Nat) (hK:i0.size=K) (base:Option Addr) (n c vb voff m vc:Nat) (cs vs:List Value) (w:World) (hm:0<m) (hnc:n≤c) (hroom:c<n+m) (hbig:(n+m)*i0.bytes≤140737488355328) (hb0:0<i0.bytes)
  (hcl:cs.length=n*K) (hvl:vs.length=m*K) (hnil:base=none→n=0)
  (hcs:∀ a,base=some a→∀ j v,cs[j]?=some v→w.cell? (a.add j)=some v)
  (hvs:∀ j v,vs[j]?=some v→w.cell? ⟨vb,voff+j,none⟩=some v) (h1v:∀ v∈vs,v.oneCell'=true) :
  Calls P (ρ.f 22) #[.slice base n c,.int .i64 n,.slice (some ⟨vb,voff,none⟩) m vc] w fun ex w' =>
   ex=.returned (.slice (some ⟨w.heap.size,0,none⟩) (n+m) (grownCap w (n+m) c e)) ∧
   w'=w.drew.alloc (.cells ((cs++vs).toArray++Builtin.zeroCells z.cells (grownCap w (n+m) c e-(n+m))) e):=by
 have t3:=L.t3; have a3:=L.a3; have t4:=L.t4; have a4:=L.a4; have t24:=L.t24; have a24:=L.a24
 have u3:=run_underlying L.t3; have u4:=run_underlying L.t4; have u24:=run_underlying L.t24
 have z9:∀ w,(Go.sizeOf e).run P w=.ok K w:=fun w=>by simp [sizeOf,typeInfo,L.i9,hK]
 have mixed:=L.mixed
 have hz1:¬ ((m:Int)=0):=by omega
 have hnm63:n+m≤140737488355328:=Nat.le_trans (Nat.le_mul_of_pos_right _ hb0) hbig
 have hsrc:Src P i0.size (ρ.t 24) (.slice (some ⟨vb,voff,none⟩) m vc) m vs w:=Src.ofSlice w L.t24 ⟨vb,voff,none⟩ m vc vs (by rw [hvl,hK]) (fun j u hj=>by rw [Addr.add_lit]; exact hvs j u hj) h1v
 have hold:(Builtin.firstCells i0.size n (.slice base n c)).run P w.drew=.ok cs.toArray w.drew:=by
  rw [hK]
  cases base with
  | none =>
   have h0:=hnil rfl
   subst h0
   have hcs0:cs=[]:=List.length_eq_zero_iff.1 (by rw [hcl,Nat.zero_mul])
   rw [hcs0]
   exact run_firstCells_none w.drew K 0 0 c
  | some a=>exact run_firstCells_some w.drew K n a n c cs hcl (fun j v hj=>hcs a rfl j v hj)
 have hrun:∀ ty,(Builtin.append_ #[(ρ.t 24),(ρ.t 24)] ty #[.slice base n c,.slice (some ⟨vb,voff,none⟩) m vc]).run P w=_:=fun ty =>
  run_append_grow_src w (ρ.t 24) (ρ.t 24) ty e i0 _ L.t24 L.i9 L.z0 base n c cs hold _ m vs hsrc hroom (by omega) (growslice_fits hroom hbig)
 generalize z.cells=Z at hrun ⊢
 obtain ⟨nm,hnm,F22⟩:=L.f22
 go_enter F22,Body2.n22_ntmps ρ
 cases base with
 | none =>
  have h0:=hnil rfl
  subst h0
  go_wp2_with (at_builtin; refine Lib.wpList_append_run _ rfl _ _ _ _ rfl _ _ rfl rfl _ _ (hrun _) ?_)
  go_ret
  exact ⟨rfl,rfl⟩
 | some a =>
  obtain ⟨ab,ao,asp⟩:=a
  go_wp2_with (at_builtin; refine Lib.wpList_append_run _ rfl _ _ _ _ rfl _ _ rfl rfl _ _ (hrun _) ?_)
  all_goals (go_ret; exact ⟨rfl,rfl⟩)

set_option maxHeartbeats 4000000 in
set_option maxRecDepth 100000 in
theorem zzt {e:TypeId} {i0:TypeInfo} {z:Value} (L:InsOK P ρ e i0 z) (K:Nat) (hK:i0.size=K) (b off n c i vb voff m vc:Nat) (cs vs:List Value) (w:World) (hi:i<n) (hm:0<m) (hnc:n≤c) (hroom:c<n+m) (hbig:(n+m)*i0.bytes≤140737488355328) (hb0:0<i0.bytes)
  (hcl:cs.length=n*K) (hvl:vs.length=m*K)
  (hcs:∀ j v,cs[j]?=some v→w.cell? ⟨b,off+j,none⟩=some v)
  (hvs:∀ j v,vs[j]?=some v→w.cell? ⟨vb,voff+j,none⟩=some v) (h1c:∀ v∈cs,v.oneCell'=true) (h1v:∀ v∈vs,v.oneCell'=true) :
  Calls P (ρ.f 22) #[.slice (some ⟨b,off,none⟩) n c,.int .i64 i,.slice (some ⟨vb,voff,none⟩) m vc] w fun ex w' =>
   ex=.returned (.slice (some ⟨w.heap.size,0,none⟩) (n+m) (grownCap w (n+m) c e)) ∧
   w'=(((w.alloc (.cells ((cs.take (i*K)).toArray++Builtin.zeroCells z.cells (n+m-i)++Builtin.zeroCells z.cells (grownCap w (n+m) c e-(n+m))) e)).drew.setCells w.heap.size (i*K) vs).drew).setCells w.heap.size ((i+m)*K) (cs.drop (i*K)):=by
 have t3:=L.t3; have a3:=L.a3; have t4:=L.t4; have a4:=L.a4; have t24:=L.t24; have a24:=L.a24
 have u3:=run_underlying L.t3; have u4:=run_underlying L.t4; have u24:=run_underlying L.t24
 have z9:∀ w,(Go.sizeOf e).run P w=.ok K w:=fun w=>by simp [sizeOf,typeInfo,L.i9,hK]
 have mixed:=L.mixed
 have hz1:¬ ((m:Int)=0):=by omega
 have hz2:¬ ((i:Int)=(n:Int)):=by omega
 have hz3:(c:Int)<(n:Int)+(m:Int):=by omega
 have hsz:(P.info? e).map (·.size)=some K:=by rw [L.i9]; simp [hK]
 have hKp:0<K:=by rw [← hK]; exact L.sz
 have hnm63:n+m≤140737488355328:=Nat.le_trans (Nat.le_mul_of_pos_right _ hb0) hbig
 have hiK:i*K+(n-i)*K=n*K:=by rw [← Nat.add_mul,Nat.add_sub_cancel' (Nat.le_of_lt hi)]
 have hsum:(i+m)*K+(n-i)*K=(n+m)*K:=by rw [← Nat.add_mul]; congr 1; omega
 have hsum2:i*K+m*K≤(n+m)*K:=by rw [← Nat.add_mul]; exact Nat.mul_le_mul_right _ (by omega)
 have hnK:0<n*K:=Nat.mul_pos (by omega) hKp
 have hmK:0<m*K:=Nat.mul_pos (by omega) hKp
 have hbw:b<w.heap.size:=block_lt_of_cell (hcs 0 _ (List.getElem?_eq_getElem (by omega)))
 have hvw:vb<w.heap.size:=block_lt_of_cell (hvs 0 _ (List.getElem?_eq_getElem (by omega)))
 have hkk:(n:Int)+(m:Int)-(i:Int)=((n+m-i:Nat):Int):=by omega
 have hik:i+(n+m-i)=n+m:=by omega
 have hold:(Builtin.firstCells i0.size i (.slice (some ⟨b,off,none⟩) i c)).run P w.drew=.ok (cs.take (i*K)).toArray w.drew:=by
  rw [hK]
  exact run_firstCells_some w.drew K i ⟨b,off,none⟩ i c (cs.take (i*K)) (by rw [List.length_take,hcl]; omega) (fun j v hj=>by
   rw [Addr.add_lit]
   rw [List.getElem?_take] at hj
   split at hj
   ·exact hcs j v hj
   ·cases hj)
 have hrz:∀ ty,(Builtin.append_ #[(ρ.t 24),(ρ.t 3)] ty #[.slice (some ⟨b,off,none⟩) i c,.int .i64 ((n:Int)+(m:Int)-(i:Int))]).run P w =
   .ok (.slice (some ⟨w.heap.size,0,none⟩) (n+m) (grownCap w (n+m) c e)) (w.drew.alloc (.cells ((cs.take (i*K)).toArray++Builtin.zeroCells z.cells (n+m-i)++Builtin.zeroCells z.cells (grownCap w (n+m) c e-(n+m))) e)):=fun ty=>by
  have h:=Lib.run_append_grow_zeros w (ρ.t 24) (ρ.t 3) ty e i0 _ .i64 .i64 L.t24 L.t3 L.i9 L.z0 (some ⟨b,off,none⟩) i c (cs.take (i*K)) hold (n+m-i) (by omega) L.sz (by omega) (by omega) (Nat.le_trans (Nat.mul_le_mul_right _ (Nat.sub_le _ _)) (by omega)) (by rw [hik]; exact growslice_fits hroom hbig)
  rw [hik] at h
  rw [hkk]
  exact h
 obtain ⟨G,hG⟩:∃ G,G=grownCap w (n+m) c e:=⟨_,rfl⟩
 obtain ⟨ROW,hROW⟩:∃ ROW:Array Value,ROW=(cs.take (i*K)).toArray++Builtin.zeroCells z.cells (n+m-i)++Builtin.zeroCells z.cells (G-(n+m)):=⟨_,rfl⟩
 rw [← hG] at hrz ⊢
 rw [← hROW] at hrz ⊢
 have hRl:(n+m)*K≤ROW.size:=by
  rw [hROW]
  have:i*K+(n+m-i)*K=(n+m)*K:=by rw [← Nat.add_mul,hik]
  simp only [Builtin.zeroCells,Array.size_append,List.size_toArray,List.length_take,Array.size_map,Array.size_range,L.zs,hK,hcl]
  omega
 obtain ⟨W1,hW1⟩:∃ W1,W1=w.drew.alloc (.cells ROW e):=⟨_,rfl⟩
 rw [← hW1] at hrz
 have hN:∀ j,j<(n+m)*K→(W1.cell? ⟨w.heap.size,j,none⟩).isSome=true:=fun j hj=>by
  rw [hW1,World.cell?_alloc_at (w:=w.drew) ROW _ w.heap.size j rfl,Array.getElem?_eq_getElem (by omega)]; rfl
 have hNf:∀ j,W1.frozen? ⟨w.heap.size,j,none⟩=false:=fun j=>by rw [hW1]; exact World.frozen?_alloc_at (w:=w.drew) ROW _ w.heap.size j rfl
 have hOb:∀ j v,w.cell? ⟨b,j,none⟩=some v→W1.cell? ⟨b,j,none⟩=some v:=fun j v h=>by rw [hW1,World.cell?_alloc_past (w:=w.drew) _ b j hbw]; exact h
 have hOv:∀ j v,w.cell? ⟨vb,j,none⟩=some v→W1.cell? ⟨vb,j,none⟩=some v:=fun j v h=>by rw [hW1,World.cell?_alloc_past (w:=w.drew) _ vb j hvw]; exact h
 have hcpA:∀ (W:World),(∀ x,W.cell? x=W1.cell? x)→(∀ x,W.frozen? x=W1.frozen? x)→∀ ty dc,(Builtin.copy_ #[(ρ.t 24),(ρ.t 24)] ty #[.slice (some ⟨w.heap.size,i*K,none⟩) (n+m-i) dc,.slice (some ⟨vb,voff,none⟩) m vc]).run P W=.ok (goInt (m:Int)) (W.setCells w.heap.size (i*K) vs):=fun W hWc hWf ty dc=>by
  have hmin:Nat.min m (n+m-i)=m:=by simp only [Nat.min_def]; split <;> omega
  have:=zgg W (ρ.t 24) (ρ.t 24) ty e K w.heap.size (i*K) (n+m-i) dc ⟨vb,voff,none⟩ m vc vs L.t24 hsz (by rw [hvl,hmin])
   (fun j v hj=>by rw [Addr.add_lit,hWc]; exact hOv _ v (hvs j v hj))
   (fun j hj=>by rw [hWc]; exact hN _ (by omega)) (fun j hj=>by rw [hWf]; exact hNf _) h1v
  rw [hmin] at this
  exact this
 have hGn:n+m≤G:=by rw [hG]; exact grownCap_ge w _ _ _
 have hG63:G≤9223372036854775807:=by
  have:=grownCap_le_maxLen w (n+m) c e (by unfold maxLen; omega)
  rw [← hG] at this
  unfold maxLen at this
  omega
 have hGi:¬ (G=i):=by omega
 have hGim:¬ (G=i+m):=by omega
 have hci:¬ (c=i):=by omega
 have hbN:b≠w.heap.size:=by omega
 have hdl:(cs.drop (i*K)).length=(n-i)*K:=by rw [List.length_drop,hcl]; omega
 have hcpB:∀ (W:World),(∀ x,W.cell? x=(W1.setCells w.heap.size (i*K) vs).cell? x)→(∀ x,W.frozen? x=(W1.setCells w.heap.size (i*K) vs).frozen? x)→∀ ty dc sc,(Builtin.copy_ #[(ρ.t 24),(ρ.t 24)] ty #[.slice (some ⟨w.heap.size,(i+m)*K,none⟩) (n+m-(i+m)) dc,.slice (some ⟨b,off+i*K,none⟩) (n-i) sc]).run P W=.ok (goInt ((n-i:Nat):Int)) (W.setCells w.heap.size ((i+m)*K) (cs.drop (i*K))):=fun W hWc hWf ty dc sc=>by
  have hmin:Nat.min (n-i) (n+m-(i+m))=n-i:=by simp only [Nat.min_def]; split <;> omega
  have:=zgg W (ρ.t 24) (ρ.t 24) ty e K w.heap.size ((i+m)*K) (n+m-(i+m)) dc ⟨b,off+i*K,none⟩ (n-i) sc (cs.drop (i*K)) L.t24 hsz (by rw [hdl,hmin])
   (fun j v hj=>by
    rw [Addr.add_lit,hWc,World.cell?_setCells_out _ _ _ _ _ (fun h _=>absurd h hbN),Nat.add_assoc]
    exact hOb _ v (hcs (i*K+j) v (by rwa [List.getElem?_drop] at hj)))
   (fun j hj=>by rw [hWc]; exact isSome_setCells _ _ _ _ (fun t ht=>hN _ (by omega)) _ (hN _ (by rw [hdl] at hj; omega)))
   (fun j hj=>by rw [hWf,World.frozen?_setCells]; exact hNf _) (fun v hv=>h1c v (List.mem_of_mem_drop hv))
  rw [hmin] at this
  exact this
 subst hW1
 have hE1:∀ x,((w.alloc (.cells ROW e)).drew).cell? x=(w.drew.alloc (.cells ROW e)).cell? x:=fun x=>rfl
 have hE2:∀ x,((w.alloc (.cells ROW e)).drew).frozen? x=(w.drew.alloc (.cells ROW e)).frozen? x:=fun x=>rfl
 have hF1:∀ x,(((w.alloc (.cells ROW e)).drew.setCells w.heap.size (i*K) vs).drew).cell? x=((w.drew.alloc (.cells ROW e)).setCells w.heap.size (i*K) vs).cell? x:=fun x=>rfl
 have hF2:∀ x,(((w.alloc (.cells ROW e)).drew.setCells w.heap.size (i*K) vs).drew).frozen? x=((w.drew.alloc (.cells ROW e)).setCells w.heap.size (i*K) vs).frozen? x:=fun x=>rfl
 have hw1:IntKind.i64.wrap ((i:Int)+(m:Int))=(i:Int)+(m:Int):=by rw [IntKind.wrap_i64]; omega
 have hb1:(0:Int)≤(i:Int)+(m:Int):=by omega
 have hin:i≤n:=by omega
 have htn:((i:Int)+(m:Int)).toNat=i+m:=by omega
 have hb3:(i:Int)≤(n:Int):=by omega
 clear hkk hik hold hROW hG hRl
 obtain ⟨nm,hnm,F22⟩:=L.f22
 go_enter F22,Body2.n22_ntmps ρ
 go_wp2_with (first
  | (at_builtin; refine Lib.wpList_append_run _ rfl _ _ _ _ rfl _ _ rfl rfl _ _ (hrz _) ?_)
  | (at_builtin; refine wpList_copy_runI _ rfl _ _ (ρ.t 24) (ρ.t 24) rfl _ _ rfl rfl (hcpA _ hE1 hE2 _ _) ?_)
  | (at_builtin; refine wpList_copy_runI _ rfl _ _ (ρ.t 24) (ρ.t 24) rfl _ _ rfl rfl (hcpB _ (fun _=>rfl) (fun _=>rfl) _ _ _) ?_))
 go_region_law_o (refine step_copy_runI rfl _ _ (ρ.t 24) (ρ.t 24) rfl (.slice (some ⟨w.heap.size,(i+m)*K,none⟩) (n+m-(i+m)) (G-(i+m))) (.slice (some ⟨b,off+i*K,none⟩) (n-i) (c-i)) (by simp [Act.eval,Act.put]) (by simp [Act.eval,Act.put]) (hcpB _ hF1 hF2 (ρ.t 3) (G-(i+m)) (c-i)) ?_)
 go_wp2
 go_ret
 exact ⟨rfl,rfl⟩

theorem zzu {A X vs:List Value} {p q:Nat} (hq:q+vs.length=p) (hp:p+X.length≤A.length) :
  let A1:=A.take p++X++A.drop (p+X.length)
  A1.take q++vs++A1.drop (q+vs.length)=A.take q++vs++(X++A.drop (p+X.length)):=by
 intro A1
 have hl:(A.take p).length=p:=by rw [List.length_take]; omega
 have e1:A1.drop (q+vs.length)=X++A.drop (p+X.length):=by
  rw [hq]
  show (A.take p++X++A.drop (p+X.length)).drop p=_
  rw [List.append_assoc,List.drop_left' hl]
 have e2:A1.take q=A.take q:=by
  show (A.take p++X++A.drop (p+X.length)).take q=_
  rw [List.append_assoc,List.take_append_of_le_length (by omega),List.take_take,Nat.min_eq_left (by omega)]
 rw [e1,e2]
theorem zzv {A X vs:List Value} {p q:Nat} (hq:q+vs.length=p) (hp:p+X.length≤A.length) :
  let A1:=A.take q++vs++A.drop (q+vs.length)
  A1.take p++X++A1.drop (p+X.length)=A.take q++vs++(X++A.drop (p+X.length)):=by
 intro A1
 have hl:(A.take q++vs).length=p:=by rw [List.length_append,List.length_take]; omega
 have e1:A1.take p=A.take q++vs:=by
  show (A.take q++vs++A.drop (q+vs.length)).take p=_
  rw [List.take_left' hl]
 have e2:A1.drop (p+X.length)=A.drop (p+X.length):=by
  show (A.take q++vs++A.drop (q+vs.length)).drop (p+X.length)=_
  rw [← List.drop_drop,List.drop_left' hl,hq,List.drop_drop]
 rw [e1,e2,List.append_assoc,List.append_assoc]

theorem zzw {e:TypeId} {i0:TypeInfo} {z:Value} (L:InsOK P ρ e i0 z) (K:Nat) (hK:i0.size=K) (hb0:0<i0.bytes) (w:World) (A:Option Nat) (n c i vb m vc:Nat) (cs vs:List Value) (cV:Array Value)
  (hi:i≤n) (hm:0<m) (hnc:n≤c) (hcm:c≤maxLen) (hbig:(n+m)*i0.bytes≤140737488355328)
  (hN:A=none→n=0∧c=0) (hA:∀ b,A=some b→b≠vb∧∃ cB,w.heap[b]?=some (.cells cB e (0,0))∧cB.size=c*K∧cB.toList.take (n*K)=cs)
  (hcl:cs.length=n*K) (hV:w.heap[vb]?=some (.cells cV e (0,0))) (hvs:cV.toList.take (m*K)=vs) (hvl:m*K≤cV.size) (h1c:∀ v∈cs,v.oneCell'=true) (h1v:∀ v∈vs,v.oneCell'=true) :
  Calls P (ρ.f 22) #[.slice (A.map fun g=>⟨g,0,none⟩) n c,.int .i64 i,.slice (some ⟨vb,0,none⟩) m vc] w fun ex w'=>∃ g cap cur,ex=.returned (.slice (some ⟨g,0,none⟩) (n+m) cap) ∧
   w'.heap[g]?=some (.cells cur e (0,0))∧cur.size=cap*K∧n+m≤cap∧cap≤maxLen∧cur.toList.take ((n+m)*K)=cs.take (i*K)++vs++cs.drop (i*K)∧(A=some g∨g=w.heap.size)∧Kept (fun k=>A=some k) w w':=by
 have hKp:0<K:=by rw [← hK]; exact L.sz
 have hmx:maxLen≤9223372036854775807:=by unfold maxLen; omega
 have hvll:vs.length=m*K:=by rw [← hvs,List.length_take,Array.length_toList]; omega
 have hvc:∀ j v,vs[j]?=some v→w.cell? ⟨vb,0+j,none⟩=some v:=fun j v hj=>by
  rw [cell_of_row w vb _ cV e (0,0) hV,← Array.getElem?_toList,Nat.zero_add]
  rw [← hvs,List.getElem?_take] at hj
  split at hj
  ·exact hj
  ·cases hj
 have hnK:(n+m)*K=n*K+m*K:=Nat.add_mul _ _ _
 have hiK:i*K≤n*K:=Nat.mul_le_mul_right _ hi
 have himK:(i+m)*K=i*K+m*K:=Nat.add_mul _ _ _
 have hmK:0<m*K:=Nat.mul_pos hm hKp
 have hdl:(cs.drop (i*K)).length=(n-i)*K:=by rw [List.length_drop,hcl,Nat.sub_mul]
 have hsum:(i+m)*K+(n-i)*K=(n+m)*K:=by rw [← Nat.add_mul]; congr 1; omega
 have hztot:∀ N:Nat,(Builtin.zeroCells z.cells N).size=N*K:=fun N=>by
  simp only [Builtin.zeroCells,Array.size_map,Array.size_range,L.zs,hK]
 have hold:∀ k,k<w.heap.size→∀ o,(w.drew.alloc o).heap[k]?=w.heap[k]?:=fun k hk o=>Below.heap_alloc w.drew o k (by simpa using hk)
 have hG1:=grownCap_ge w (n+m) c e
 have hG2:grownCap w (n+m) c e≤maxLen:=by
  have hnm63:n+m≤140737488355328:=Nat.le_trans (Nat.le_mul_of_pos_right _ hb0) hbig
  exact grownCap_le_maxLen w (n+m) c e (by unfold maxLen; omega)
 by_cases hroom:n+m≤c
 ·cases A with
  | none=>have:=hN rfl; omega
  | some b =>
   obtain ⟨hbv,cB,hB,hBs,hBt⟩:=hA b rfl
   have hcK:(n+m)*K≤c*K:=Nat.mul_le_mul_right _ hroom
   have hsp:∀ j,j<(n+m)*K→(w.cell? ⟨b,0+j,none⟩).isSome=true:=fun j hj=>by
    rw [cell_of_row w b _ cB e (0,0) hB,Nat.zero_add,Array.getElem?_eq_getElem (by omega)]; rfl
   have hfz:∀ j,w.frozen? ⟨b,j,none⟩=false:=fun j=>by simp [World.frozen?,hB]
   have hcc:∀ j v,cs[j]?=some v→w.cell? ⟨b,0+j,none⟩=some v:=fun j v hj=>by
    rw [cell_of_row w b _ cB e (0,0) hB,← Array.getElem?_toList,Nat.zero_add]
    rw [← hBt,List.getElem?_take] at hj
    split at hj
    ·exact hj
    ·cases hj
   by_cases hin:i<n
   ·have h:=zzq L K hK b 0 n c i vb 0 m vc cs vs w hin hm hroom (by omega) (Ne.symm hbv) hcl hvll hcc hsp (fun j _=>hfz _) hvc h1c h1v e e cV.size cB.size (by simp [World.shape?,hV]) (by simp [World.shape?,hB]) (by omega) (by simp [World.frozen?,hV]) (by simp [World.frozen?,hV])
    refine h.mono fun ex w' ⟨he,hw⟩=>?_
    obtain ⟨c1,c2,c3⟩:=z9c (w:=w.drew) (g:=b) (o:=0+(i+m)*K) (vs:=cs.drop (i*K)) (cur:=cB) (t:=e) hB (by rw [hdl]; omega) (fun v hv=>h1c v (List.mem_of_mem_drop hv))
    obtain ⟨d1,d2,d3⟩:=z9c (o:=0+i*K) (vs:=vs) c1 (by
     simp only [List.size_toArray,List.length_append,List.length_take,List.length_drop,Array.length_toList,hvll,hcl]
     have:i*K+(n-i)*K=n*K:=by rw [← Nat.add_mul,Nat.add_sub_cancel' hi]
     omega) h1v
    refine ⟨b,c,_,he,by rw [hw]; exact d1,?_,hroom,hcm,?_,.inl rfl,?_⟩
    ·simp only [List.size_toArray,List.length_append,List.length_take,List.length_drop,Array.length_toList,hvll,hdl]
     have:i*K+(n-i)*K=n*K:=by rw [← Nat.add_mul,Nat.add_sub_cancel' hi]
     omega
    ·have hs:=zzu (A:=cB.toList) (X:=cs.drop (i*K)) (vs:=vs) (p:=(i+m)*K) (q:=i*K) (by rw [hvll,himK]) (by rw [hdl,Array.length_toList]; omega)
     simp only [Nat.zero_add] at hs ⊢
     rw [hs,← List.append_assoc,List.take_left']
     ·rw [← hBt,List.take_take,Nat.min_eq_left hiK]
     ·rw [List.length_append,List.length_append,List.length_take,Array.length_toList,hvll,hdl]; omega
    ·rw [hw]
     have k0:Kept (fun k=>some b=some k) w w.drew:=Kept.drawn w _ _
     have c3':Kept (fun k=>some b=some k) w.drew (w.drew.setCells b (0+(i+m)*K) (cs.drop (i*K))):=⟨c3.os,c3.tape,c3.output,c3.size,fun k hk ho=>c3.block k hk (fun h=>ho (by rw [h]))⟩
     have d3':=d3
     exact (k0.trans c3' (fun _ _ h=>h)).trans ⟨d3'.os,d3'.tape,d3'.output,d3'.size,fun k hk ho=>d3'.block k hk (fun h=>ho (by rw [h]))⟩ (fun _ _ h=>h)
   ·obtain rfl:i=n:=by omega
    have h:=zzr L K hK b 0 i c vb 0 m vc vs w hm hroom (by omega) hvll (fun j hj=>by rw [Nat.add_assoc]; exact hsp _ (by omega)) (fun j _=>hfz _) hvc h1v
    refine h.mono fun ex w' ⟨he,hw⟩=>?_
    obtain ⟨c1,c2,c3⟩:=z9c (w:=w) (g:=b) (o:=0+i*K) (vs:=vs) (cur:=cB) (t:=e) hB (by rw [hvll]; omega) h1v
    refine ⟨b,c,_,he,by rw [hw]; exact c1,?_,hroom,hcm,?_,.inl rfl,?_⟩
    ·simp only [List.size_toArray,List.length_append,List.length_take,List.length_drop,Array.length_toList,hvll]
     omega
    ·simp only [Nat.zero_add]
     rw [List.take_left' (by rw [List.length_append,List.length_take,Array.length_toList,hvll]; omega),hBt,List.take_of_length_le (l:=cs) (by omega),List.drop_of_length_le (l:=cs) (by omega),List.append_nil]
    ·rw [hw]
     exact ⟨c3.os,c3.tape,c3.output,c3.size,fun k hk ho=>c3.block k hk (fun h=>ho (by rw [h]))⟩
 ·have hroom':c<n+m:=by omega
  by_cases hin:i<n
  ·cases A with
   | none=>have:=hN rfl; omega
   | some b =>
    obtain ⟨hbv,cB,hB,hBs,hBt⟩:=hA b rfl
    have hcc:∀ j v,cs[j]?=some v→w.cell? ⟨b,0+j,none⟩=some v:=fun j v hj=>by
     rw [cell_of_row w b _ cB e (0,0) hB,← Array.getElem?_toList,Nat.zero_add]
     rw [← hBt,List.getElem?_take] at hj
     split at hj
     ·exact hj
     ·cases hj
    have h:=zzt L K hK b 0 n c i vb 0 m vc cs vs w hin hm hnc hroom' hbig hb0 hcl hvll hcc hvc h1c h1v
    refine h.mono fun ex w' ⟨he,hw⟩=>?_
    generalize grownCap w (n+m) c e=G at he hw hG1 hG2
    obtain ⟨ROW,hROW⟩:∃ ROW:Array Value,ROW=(cs.take (i*K)).toArray++Builtin.zeroCells z.cells (n+m-i)++Builtin.zeroCells z.cells (G-(n+m)):=⟨_,rfl⟩
    rw [← hROW] at hw
    have hRs:ROW.size=G*K:=by
     have h1:i*K+(n+m-i)*K=(n+m)*K:=by rw [← Nat.add_mul]; congr 1; omega
     have h2:(n+m)*K+(G-(n+m))*K=G*K:=by rw [← Nat.add_mul]; congr 1; omega
     rw [hROW,Array.size_append,Array.size_append,List.size_toArray,hztot,hztot,List.length_take,hcl,Nat.min_eq_left hiK,h1,h2]
    have hRt:ROW.toList.take (i*K)=cs.take (i*K):=by
     rw [hROW,Array.toList_append,Array.toList_append,List.append_assoc,List.take_left' (by simp only [List.length_take,hcl]; omega)]
    have hGK:(n+m)*K≤G*K:=Nat.mul_le_mul_right _ hG1
    obtain ⟨c1,c2,c3⟩:=z9c (w:=(w.alloc (.cells ROW e)).drew) (g:=w.heap.size) (o:=i*K) (vs:=vs) (cur:=ROW) (t:=e) (z98 w _) (by rw [hvll]; omega) h1v
    obtain ⟨d1,d2,d3⟩:=z9c (w:=((w.alloc (.cells ROW e)).drew.setCells w.heap.size (i*K) vs).drew) (o:=(i+m)*K) (vs:=cs.drop (i*K)) c1 (by
     simp only [List.size_toArray,List.length_append,List.length_take,List.length_drop,Array.length_toList,hvll,hcl]
     have:i*K+(n-i)*K=n*K:=by rw [← Nat.add_mul,Nat.add_sub_cancel' hi]
     omega) (fun v hv=>h1c v (List.mem_of_mem_drop hv))
    refine ⟨w.heap.size,G,_,he,by rw [hw]; exact d1,?_,hG1,hG2,?_,.inr rfl,?_⟩
    ·simp only [List.size_toArray,List.length_append,List.length_take,List.length_drop,Array.length_toList,hvll,hdl]
     omega
    ·have hs:=zzv (A:=ROW.toList) (X:=cs.drop (i*K)) (vs:=vs) (p:=(i+m)*K) (q:=i*K) (by rw [hvll,himK]) (by rw [hdl,Array.length_toList]; omega)
     simp only [] at hs ⊢
     rw [hs,← List.append_assoc,List.take_left']
     ·rw [hRt]
     ·rw [List.length_append,List.length_append,List.length_take,Array.length_toList,hvll,hdl]; omega
    ·rw [hw]
     have hsz1:(w.alloc (.cells ROW e)).heap.size=w.heap.size+1:=by simp
     have k0:Kept (fun k=>some b=some k) w ((w.alloc (.cells ROW e)).drew):=(Kept.alloc w _ _).trans (Kept.drawn _ _ _) (fun _ _ h=>h)
     have k1:=k0.trans (O':=fun k=>k=w.heap.size) c3 (fun k hk h=>absurd h (Nat.ne_of_lt hk))
     have k2:=k1.trans (O':=fun _=>False) (Kept.drawn _ (((w.alloc (.cells ROW e)).drew.setCells w.heap.size (i*K) vs).drawn+1) _) (fun _ _ h=>h.elim)
     exact k2.trans (O':=fun k=>k=w.heap.size) d3 (fun k hk h=>absurd h (Nat.ne_of_lt hk))
  ·obtain rfl:i=n:=by omega
   have h:=zzs L K hK (A.map fun g=>⟨g,0,none⟩) i c vb 0 m vc cs vs w hm hnc hroom' hbig hb0 hcl hvll (fun h=>by
    cases A with
    | none=>exact (hN rfl).1
    | some b=>cases h) (fun a ha j v hj=>by
    cases A with
    | none=>cases ha
    | some b =>
     cases ha
     obtain ⟨hbv,cB,hB,hBs,hBt⟩:=hA b rfl
     rw [Addr.add_lit,cell_of_row w b _ cB e (0,0) hB,← Array.getElem?_toList,Nat.zero_add]
     rw [← hBt,List.getElem?_take] at hj
     split at hj
     ·exact hj
     ·cases hj) hvc h1v
   refine h.mono fun ex w' ⟨he,hw⟩=>?_
   refine ⟨w.heap.size,_,_,he,by rw [hw]; exact z98 w.drew _,?_,hG1,hG2,?_,.inr rfl,?_⟩
   ·have h2:(i+m)*K+(grownCap w (i+m) c e-(i+m))*K=grownCap w (i+m) c e*K:=by rw [← Nat.add_mul]; congr 1; omega
    rw [Array.size_append,List.size_toArray,hztot,List.length_append,hcl,hvll,← Nat.add_mul,h2]
   ·rw [Array.toList_append,List.take_left' (by simp only [List.length_append,hcl,hvll]; omega),List.take_of_length_le (l:=cs) (by omega),List.drop_of_length_le (l:=cs) (by omega),List.append_nil]
   ·rw [hw]
    exact (Kept.drawn w _ _).trans (Kept.alloc w.drew _ _) (fun _ _ h=>h)
end Go.Proofs.YtjbnebolfnjneaaGreatDoor.Ev

/- slices.Insert as a call that is handed rows: its contract. Over any program. -/
namespace Go.Proofs.YtjbnebolfnjneaaGreatDoor.Ev
open Go.Shelf Go.RowKit Go.Lib Go.Proofs

def zgh (e:TypeId) (t:Ty) (bytes:Nat):OC:=⟨⟨[(0,.ref PIN []),(1,.val (.int .i64)),(2,.ref (PIN+1) [])],[(PIN,e,t,false),(PIN+1,e,t,false)],[]⟩,⟨[(0,.ref NB [])],[(NB,e,t,false)],[]⟩,
 fun x=>if 0≤x.1.2.1∧x.1.2.1≤(List.length x.2.1.1:Int)∧0<List.length x.2.1.2.1∧(List.length x.2.1.1+List.length x.2.1.2.1)*bytes≤LIM then some (((),()),(List.take x.1.2.1.toNat x.2.1.1++x.2.1.2.1++List.drop x.1.2.1.toNat x.2.1.1,()),()) else none,false⟩
theorem zp2 {P:Program} {E:Env} {w0:World} {ok O:Nat→Prop} {σ:St} {tm:Array Value} {w:World} {M:Map} (R:Rep E w0 ok O σ tm w M) {j:Nat} {e:TypeId} {t:Ty} {xs:List t.T} (hr:lk σ.rows j=some ⟨e,t,xs,false⟩) {s:Nat} (hs:lk σ.sl s=some (.ref j [])) :
  ∃ l:L (.sl e t),M.loc j=⟨.sl e t,l⟩∧l.2.2.map (erase t)=xs∧holds (Rd w0 ok) w (.sl e t) l∧plain w (.sl e t) l∧tm[s]?=some (.slice (l.1.map fun g=>⟨g,0,none⟩) l.2.2.length l.2.1):=by
 obtain ⟨l,h1,h2,h3,_,h5⟩:=R.rows j _ hr
 obtain ⟨u,h6,h7⟩:=R.slots s _ hs
 obtain ⟨cs,⟨e',t',l',h8,rfl⟩,h9⟩:=h7
 rw [h1,z2y] at h8
 cases h8
 refine ⟨l,h1,h2,h3,h5 rfl,?_⟩
 rcases h9 with ⟨h,_⟩ | ⟨_,h⟩
 ·cases h
 ·simp only [z8,List.cons.injEq,and_true] at h
  rw [h6,← h]
theorem zzx {P:Program} [Glob P] {ρ:Ren} {ti:List TI} {e:TypeId} {t:Ty} {bytes:Nat} {i0:TypeInfo} {z:Value} (H:InsOK P ρ e i0 z) (hK:i0.size=t.sz) (hb:i0.bytes=bytes) (hb0:0<bytes) (hf:t.flat=true):z17 P ti (ρ.f 22) (zgh e t bytes):=by
 refine ⟨rfl,fun E hE x y hF w ok O M vs hlen G R=>?_⟩
 obtain ⟨⟨⟨⟩,i,⟨⟩,⟨⟩⟩,⟨xs,ys,⟨⟩⟩,⟨⟩⟩:=x
 simp only [zgh] at hF
 split at hF
 ·rename_i hc
  cases hF
  obtain ⟨hi0,hi1,hm,hby⟩:=hc
  obtain ⟨n,rfl⟩:=Int.eq_ofNat_of_zero_le hi0
  have hi2:n≤List.length xs:=Int.ofNat_le.1 hi1
  clear hi0 hi1
  simp only [Int.toNat_natCast]
  obtain ⟨lx,mx,ex,hx,px,sx⟩:=zp2 (P:=P) R (j:=PIN) (e:=e) (t:=t) (xs:=xs) rfl (s:=0) rfl
  obtain ⟨ly,my,ey,hy,py,sy⟩:=zp2 (P:=P) R (j:=PIN+1) (e:=e) (t:=t) (xs:=ys) rfl (s:=2) rfl
  obtain ⟨u1,s1,r1⟩:=R.slots 1 _ rfl
  match vs,hlen with
  | [v0,v1,v2],_ =>
  have ev0:v0=.slice (lx.1.map fun g=>⟨g,0,none⟩) lx.2.2.length lx.2.1:=by simpa using sx
  have ev2:v2=.slice (ly.1.map fun g=>⟨g,0,none⟩) ly.2.2.length ly.2.1:=by simpa using sy
  have s1:v1=u1:=by simpa using s1
  obtain ⟨cs,h1,h2⟩:=r1
  have h1:cs=[.int .i64 n]:=h1
  subst h1
  have hv1:v1=.int .i64 n:=by
   rw [s1]
   rcases h2 with ⟨h,_⟩ | ⟨_,h⟩
   ·cases h
   ·cases h; rfl
  subst hv1
  have hxl:xs.length=lx.2.2.length:=by rw [← ex,List.length_map]
  have hyl:ys.length=ly.2.2.length:=by rw [← ey,List.length_map]
  have hfl:∀ l:List (L t),l.flatMap (z6 t)=[]:=fun l=>by rw [List.flatMap_eq_nil_iff]; exact fun q _=>z8e q hf
  have hLIM:LIM=140737488355328:=rfl
  cases hg:ly.1 with
  | none =>
   have:=hy.1
   rw [hg] at this
   have h0:ly.2.2.length=0:=by rw [this.1]; rfl
   omega
  | some vb =>
   have hy1:=hy.1
   rw [hg] at hy1
   obtain ⟨cV,fz,v1,v2',v3,v4,v5,v6⟩:=hy1
   obtain ⟨cV',e',w1,w2⟩:=py.1 vb hg
   rw [v1] at w1
   cases w1
   have hcx:lx.2.2.length≤lx.2.1∧lx.2.1≤maxLen:=by
    have:=hx.1
    cases hq:lx.1 with
    | none=>rw [hq] at this; rw [this.1,this.2]; exact ⟨Nat.le_refl _,Nat.zero_le _⟩
    | some b=>rw [hq] at this; obtain ⟨_,_,_,h3,h4,_⟩:=this; exact ⟨h3,h4⟩
   have hblk:∀ g,lx.1=some g→g∈z6 (M.loc PIN).1 (M.loc PIN).2:=fun g h=>by rw [mx]; simp [z6,h]
   have hown:∀ g,lx.1=some g→¬ ok g∧O g:=fun g h=>by
    obtain ⟨h1,h2⟩:=R.ownR PIN ⟨_,rfl⟩ g (hblk g h)
    refine ⟨h1,h2.resolve_right fun h3=>?_⟩
    have:=hx.1
    rw [h] at this
    obtain ⟨_,_,h4,_⟩:=this
    have:=(Array.getElem?_eq_some_iff.1 h4).1
    omega
   have key:=zzw H t.sz hK (by rw [hb]; exact hb0) w lx.1 lx.2.2.length lx.2.1 n vb ly.2.2.length ly.2.1 (lx.2.2.flatMap (z8 t)) (ly.2.2.flatMap (z8 t)) cV (by omega) (by omega) hcx.1 hcx.2 (by rw [hb,← hLIM,← hxl,← hyl]; exact hby)
    (fun h=>by have:=hx.1; rw [h] at this; exact ⟨by rw [this.1]; rfl,this.2⟩)
    (fun b h=>by
     refine ⟨fun hbv=>?_,?_⟩
     ·have:=R.rr PIN (PIN+1) (by simp) ⟨_,rfl⟩ ⟨_,rfl⟩ b (hblk b h)
      rw [my] at this
      exact this (by simp [z6,hg,hbv])
     ·have:=hx.1
      rw [h] at this
      obtain ⟨cB,fz,q1,q2,q3,q4,q5,q6⟩:=this
      obtain ⟨cB',e',q7,q8⟩:=px.1 b h
      rw [q1] at q7
      cases q7
      exact ⟨cB,q1,q8,q5⟩) (z1l _ _) v1 v5 (Nat.le_trans (Nat.mul_le_mul_right _ v2') v4) (z9d _) (z9d _)
   obtain ⟨nm,hnm,F22⟩:=H.f22
   unfold z25
   rw [z7l F22 (by rfl) hnm]
   rw [ev0,ev2,hg]
   refine key.mono fun ex w' ⟨g,cap,cur,he,k1,k2,k3,k4,k5,k6,k7⟩=>?_
   subst he
   have hl':(lx.2.2.take n++ly.2.2++lx.2.2.drop n).length=lx.2.2.length+ly.2.2.length:=by
    simp only [List.length_append,List.length_take,List.length_drop]; omega
   have hfm:(lx.2.2.take n++ly.2.2++lx.2.2.drop n).flatMap (z8 t)=(lx.2.2.flatMap (z8 t)).take (n*t.sz)++ly.2.2.flatMap (z8 t)++(lx.2.2.flatMap (z8 t)).drop (n*t.sz):=by
    rw [List.flatMap_append,List.flatMap_append]
    have hq:lx.2.2.flatMap (z8 t)=(lx.2.2.take n).flatMap (z8 t)++(lx.2.2.drop n).flatMap (z8 t):=by rw [← List.flatMap_append,List.take_append_drop]
    have hql:((lx.2.2.take n).flatMap (z8 t)).length=n*t.sz:=by rw [z1l,List.length_take,Nat.min_eq_left (by omega)]
    rw [hq,List.take_left' hql,List.drop_left' hql]
   have hOk:¬ ok g∧(O g∨w.heap.size≤g):=by
    rcases k6 with k6 | k6
    ·exact ⟨(hown g k6).1,.inl (hown g k6).2⟩
    ·exact ⟨fun h=>by have:=(R.okB g h).1; omega,.inr (by omega)⟩
   have:=zp0 (E:=E) (w0:=w) (ok:=ok) (O:=O) (n:=1) (t:=.sl e t) (l:=(some g,cap,lx.2.2.take n++ly.2.2++lx.2.2.drop n)) (v:=.slice (some ⟨g,0,none⟩) (lx.2.2.length+ly.2.2.length) cap) (w:=w')
    (show z1f _ _ _ from .inr ⟨rfl,by simp only [z8,hl']; rfl⟩) (Nat.succ_pos 0) ⟨⟨cur,(0,0),k1,by rw [hl']; exact k3,k4,Nat.le_of_eq k2.symm,by rw [hl',k5,hfm],.inl rfl⟩,fun q _=>(z8f q hf _ w').1⟩
    ⟨fun b hb=>by cases hb; exact ⟨cur,e,k1,k2⟩,fun q _=>(z8f q hf (fun _ _ _=>False) w').2⟩ (by simp only [z6,hfl]; simp) (fun k hk=>by
     simp only [z6,hfl,Option.toList_some,List.append_nil,List.mem_singleton] at hk
     subst hk
     exact hOk) R.okB ⟨k7.os,k7.tape,k7.output,k7.size,fun k hk ho=>k7.block k hk fun h=>ho (hown k h).2⟩ (by simp [zd,NB,PIN])
   obtain ⟨M',R'⟩:=this
   refine ⟨M',_,_,_,.refl,?_⟩
   have hE2:erase (.sl e t) (some g,cap,lx.2.2.take n++ly.2.2++lx.2.2.drop n)=xs.take n++ys++xs.drop n:=by
    simp only [erase,List.map_append,List.map_take,List.map_drop,ex,ey]
   rw [hE2] at R'
   exact R'
 ·cases hF

theorem zjz {P:Program} {t:TypeId} {d:TypeDesc} (h:P.underlying t=some d) (hd:(match d with | .struct _=>false | .array _ _=>false | .slice _=>true | .int _=>true | .bool=>true | _=>false)=true):∀ w,(isAgg t).run P w=.ok false w:=by
 intro w
 cases d <;> first | (unfold isAgg; simp only [Sem.run_bind,run_underlying h,Result.andThen_ok,Sem.run_pure]; done) | (cases hd; done)
theorem zzy {P:Program} [Glob P] {ρ:Ren} {ti:List TI} (T:zb P ti=true) {e:TypeId} {t:Ty} {bytes:Nat} (fe:Bears P (ρ.f 22) (Body2.n22 ρ))
  (ov:∀ vs w,(callFunc (ρ.f 29) vs).run P w=((Extern.SlicesOverlaps.overlaps #[ρ.t 24,ρ.t 24] #[ρ.t 4] vs).run P w).andThen fun v w'=>.ok (.value v) w')
  (mixed:P.follows .mixedOrders=true) (t3:P.underlying (ρ.t 3)=some (.int .i64)) (t4:P.underlying (ρ.t 4)=some .bool) (t24:P.underlying (ρ.t 24)=some (.slice e))
  {i:TI} (hi:ti[e]?=some i) (hty:i.ty=t) (hz:t.zero.isSome=true) (hb:i.bytes=bytes) (hf:t.flat=true) (hst:(match i.sh with | .oth=>false | _=>true)=true):z17 P ti (ρ.f 22) (zgh e t bytes):=by
 subst hty
 let E:Env:=zq ti [] (fun _=>none) z36 z38
 have TE:zb P E.ti=true:=T
 have hiE:E.ti[e]?=some i:=hi
 have htE:E.tyOf e=i.ty:=by rw [Env.tyOf,hiE]
 obtain ⟨z1,hz1⟩:∃ z,(E.tyOf e).zero=some z:=by rw [htE]; exact Option.isSome_iff_exists.1 hz
 obtain ⟨ti',v,i1,i2,i3,i4⟩:=z99 TE hz1
 obtain ⟨⟨ti2,j1,j2,j3,j4,j5⟩,_⟩:=(z2f TE hiE (by intro hsh; rw [hsh] at hst; cases hst)).1
 rw [i1] at j1
 cases j1
 have hvs:v.cells.size=(E.tyOf e).sz:=by rw [← Array.length_toList,i3,zd8 _ hz1]
 have hpos:0<(E.tyOf e).sz:=Nat.pos_of_ne_zero (z68 _ hz1)
 refine zzx (i0:=ti') (z:=v) ⟨fe,ov,mixed,t3,zjz t3 rfl,t4,zjz t4 rfl,t24,zjz t24 rfl,i1,i2,by rw [i4]; exact hpos,by rw [hvs,i4]⟩ (by rw [i4,htE]) (by rw [← hb,← j3]) (by rw [← hb,← j3]; exact j4) hf
end Go.Proofs.YtjbnebolfnjneaaGreatDoor.Ev

/- slices.Grow as a call that is handed a row: its contract. Over any program. -/
namespace Go.Proofs.YtjbnebolfnjneaaGreatDoor.Ev
open Go.Shelf Go.RowKit Go.Lib Go.Proofs
variable {P : Program} {ρ : Ren}

end Go.Proofs.YtjbnebolfnjneaaGreatDoor.Ev
