/- Plain values for a program that runs on a machine: an evaluator of loaded code and the proof that it tells what the machine does (part 1 of 7). No conditions: definitions and lemmas z4r any program. -/
import Derived.Below
import Derived.Deep.Draws
import Derived.Deep.AppendLies
import Derived.Maps.AppendAt
import Derived.OwnWalk
import Derived.Laws.OwnMore
import Derived.Laws.Rows
import Derived.Tactics
import Derived.Orders
import Derived.Laws.World
import Derived.Laws.Cells
set_option linter.unusedVariables false
set_option linter.unusedSimpArgs false
/- Plain types for Go's data, how they are read in memory, and how a call's own memory holds them. No conditions: definitions and lemmas z4r any program. -/
namespace Go.Proofs.YtjbnebolfnjneaaGreatDoor.Ev
open Go.RowKit

inductive Ty where
 | int (k:IntKind)
 | bool
 | str
 | sl (e:TypeId) (t:Ty)
 | st (t:Ty)
 | pr (a b:Ty)
 | ptr (t:Ty)
 | un
 | fn (g:FuncId) (c:Ty)
 | rd (t:Ty)
 | fs (ids:List FuncId)
 deriving DecidableEq

@[reducible] def Ty.T : Ty → Type
 | .int _=>Int
 | .bool=>Bool
 | .str=>List UInt8
 | .sl _ t=>List t.T
 | .st t=>t.T
 | .pr a b=>a.T×b.T
 | .ptr t=>t.T
 | .un=>Unit
 | .fn _ c=>c.T
 | .rd t=>t.T
 | .fs _=>Nat

def Ty.sz:Ty→Nat
 | .pr a b=>a.sz+b.sz
 | .st t=>t.sz
 | .rd t=>t.sz
 | .un=>0
 | _=>1

def z2a (w:World) (a:Addr) (ds:List Value):Prop:=∀ j u,ds[j]?=some u→w.cell? (a.add j)=some u

def Rd (w:World) (ok:Nat→Prop):(t:Ty)→t.T→List Value→Prop
 | .int k,n,cs=>cs=[.int k n]
 | .bool,b,cs=>cs=[.bool b]
 | .str,s,cs=>cs=[.string ⟨s.toArray⟩]
 | .sl _ t,xs,cs=>∃ A c,cs=[.slice A (List.length xs) c]∧List.length xs≤c ∧
   (xs≠[]→∃ ad,A=some ad∧ok ad.block∧∀ i x,xs[i]?=some x→∃ ds,Rd w ok t x ds∧z2a w (ad.add (i*t.sz)) ds)
 | .st t,x,cs=>Rd w ok t x cs
 | .pr a b,x,cs=>∃ c1 c2,cs=c1++c2∧Rd w ok a x.1 c1∧Rd w ok b x.2 c2
 | .ptr t,x,cs=>∃ ad ds,cs=[.pointer (some ad)]∧ok ad.block∧Rd w ok t x ds∧z2a w ad ds
 | .un,_,cs=>cs=[]
 | .fn g c,x,cs=>∃ caps:Array Value,cs=[.func (.func g) #[] caps]∧Rd w ok c x caps.toList
 | .rd t,x,cs=>Rd w ok t x cs
 | .fs ids,g,cs=>cs=[.func (.func g) #[] #[]]∧ids.any (Nat.beq g)=true

theorem Rd.len {w:World} {ok:Nat→Prop}:∀ {t:Ty} {x:t.T} {cs:List Value},Rd w ok t x cs→cs.length=t.sz
 | .int _,_,_,h=>by simp only [Rd] at h; subst h; rfl
 | .bool,_,_,h=>by simp only [Rd] at h; subst h; rfl
 | .str,_,_,h=>by simp only [Rd] at h; subst h; rfl
 | .sl _ _,_,_,h=>by obtain ⟨A,c,rfl,_⟩:=h; rfl
 | .st t,x,cs,h=>Rd.len (t:=t) (x:=x) h
 | .pr a b,x,cs,h=>by
  obtain ⟨c1,c2,rfl,h1,h2⟩:=h
  rw [List.length_append,Rd.len h1,Rd.len h2]; rfl
 | .ptr _,_,_,h=>by obtain ⟨ad,ds,rfl,_⟩:=h; rfl
 | .un,_,_,h=>by simp only [Rd] at h; subst h; rfl
 | .fn _ _,_,_,h=>by obtain ⟨caps,rfl,_⟩:=h; rfl
 | .rd t,x,cs,h=>Rd.len (t:=t) (x:=x) h
 | .fs _,_,_,h=>by obtain ⟨rfl,_⟩:=h; rfl

theorem z2a.move {w w':World} {a:Addr} {ds:List Value} (h:z2a w a ds) (hb:w'.heap[a.block]?=w.heap[a.block]?):z2a w' a ds:=by
 intro j u hu
 rw [World.cell?_of_block (w:=w)]
 ·exact h j u hu
 ·rw [show (a.add j).block=a.block by unfold Addr.add; split <;> rfl]; exact hb

theorem zcd (a:Addr) (n:Nat):(a.add n).block=a.block:=by unfold Addr.add; split <;> rfl
theorem za9 (a:Addr) (i j:Nat):(a.add i).add j=a.add (i+j):=by
 unfold Addr.add
 by_cases hi:i=0 <;> by_cases hj:j=0 <;> simp [hi,hj,Nat.add_assoc]
theorem add_zero (a:Addr):a.add 0=a:=by simp [Addr.add]
theorem z2v (g i j:Nat):(⟨g,i,none⟩:Addr).add j=⟨g,i+j,none⟩:=by unfold Addr.add; split <;> simp_all

theorem Rd.move {w w':World} {ok:Nat→Prop} (hb:∀ k,ok k→w'.heap[k]?=w.heap[k]?):∀ {t:Ty} {x:t.T} {cs:List Value},Rd w ok t x cs→Rd w' ok t x cs
 | .int _,_,_,h=>h
 | .bool,_,_,h=>h
 | .str,_,_,h=>h
 | .sl _ t,xs,cs,h=>by
  obtain ⟨A,c,rfl,hl,hr⟩:=h
  refine ⟨A,c,rfl,hl,fun hne=>?_⟩
  obtain ⟨ad,rfl,hok,hx⟩:=hr hne
  refine ⟨ad,rfl,hok,fun i x hi=>?_⟩
  obtain ⟨ds,h1,h2⟩:=hx i x hi
  exact ⟨ds,Rd.move hb h1,h2.move (by rw [zcd]; exact hb _ hok)⟩
 | .st t,x,cs,h=>Rd.move (t:=t) (x:=x) hb h
 | .pr a b,x,cs,h=>by
  obtain ⟨c1,c2,rfl,h1,h2⟩:=h
  exact ⟨c1,c2,rfl,Rd.move hb h1,Rd.move hb h2⟩
 | .ptr t,x,cs,h=>by
  obtain ⟨ad,ds,rfl,hok,h1,h2⟩:=h
  exact ⟨ad,ds,rfl,hok,Rd.move hb h1,h2.move (hb _ hok)⟩
 | .un,_,_,h=>h
 | .fn _ c,x,cs,h=>by
  obtain ⟨caps,rfl,h1⟩:=h
  exact ⟨caps,rfl,Rd.move hb h1⟩
 | .rd t,x,cs,h=>Rd.move (t:=t) (x:=x) hb h
 | .fs _,_,_,h=>h

theorem Rd.mono {w:World} {ok ok':Nat→Prop} (hb:∀ k,ok k→ok' k):∀ {t:Ty} {x:t.T} {cs:List Value},Rd w ok t x cs→Rd w ok' t x cs
 | .int _,_,_,h=>h
 | .bool,_,_,h=>h
 | .str,_,_,h=>h
 | .sl _ t,xs,cs,h=>by
  obtain ⟨A,c,rfl,hl,hr⟩:=h
  refine ⟨A,c,rfl,hl,fun hne=>?_⟩
  obtain ⟨ad,rfl,hok,hx⟩:=hr hne
  refine ⟨ad,rfl,hb _ hok,fun i x hi=>?_⟩
  obtain ⟨ds,h1,h2⟩:=hx i x hi
  exact ⟨ds,Rd.mono hb h1,h2⟩
 | .st t,x,cs,h=>Rd.mono (t:=t) (x:=x) hb h
 | .pr a b,x,cs,h=>by
  obtain ⟨c1,c2,rfl,h1,h2⟩:=h
  exact ⟨c1,c2,rfl,Rd.mono hb h1,Rd.mono hb h2⟩
 | .ptr t,x,cs,h=>by
  obtain ⟨ad,ds,rfl,hok,h1,h2⟩:=h
  exact ⟨ad,ds,rfl,hb _ hok,Rd.mono hb h1,h2⟩
 | .un,_,_,h=>h
 | .fn _ c,x,cs,h=>by
  obtain ⟨caps,rfl,h1⟩:=h
  exact ⟨caps,rfl,Rd.mono hb h1⟩
 | .rd t,x,cs,h=>Rd.mono (t:=t) (x:=x) hb h
 | .fs _,_,_,h=>h

@[reducible] def L : Ty → Type
 | .int _=>Int
 | .bool=>Bool
 | .str=>List UInt8
 | .sl _ t=>Option Nat×Nat×List (L t)
 | .st t=>L t
 | .pr a b=>L a×L b
 | .ptr _=>Empty
 | .un=>Unit
 | .fn _ _=>Empty
 | .fs _=>Empty
 | .rd t=>{p:t.T×List Value // p.2.length=t.sz∧∀ v∈p.2,v.oneCell'=true}

def erase:(t:Ty)→L t→t.T
 | .int _,n=>n
 | .bool,b=>b
 | .str,s=>s
 | .sl _ t,x=>x.2.2.map (erase t)
 | .st t,x=>erase t x
 | .pr a b,x=>(erase a x.1,erase b x.2)
 | .un,x=>x
 | .rd _,x=>x.1.1

def z8:(t:Ty)→L t→List Value
 | .int k,n=>[.int k n]
 | .bool,b=>[.bool b]
 | .str,s=>[.string ⟨s.toArray⟩]
 | .sl _ _,x=>[.slice (x.1.map fun g=>⟨g,0,none⟩) x.2.2.length x.2.1]
 | .st t,x=>z8 t x
 | .pr a b,x=>z8 a x.1++z8 b x.2
 | .un,_=>[]
 | .rd _,x=>x.1.2

def z6:(t:Ty)→L t→List Nat
 | .sl _ t,x=>x.1.toList++x.2.2.flatMap (z6 t)
 | .st t,x=>z6 t x
 | .pr a b,x=>z6 a x.1++z6 b x.2
 | .int _,_=>[]
 | .bool,_=>[]
 | .str,_=>[]
 | .un,_=>[]
 | .rd _,_=>[]

abbrev Frz:Type:=(t:Ty)→t.T→List Value→Prop
def holds (F:Frz) (w:World):(t:Ty)→L t→Prop
 | .sl e t,x=>(match x.1 with
   | none=>x.2.2=[]∧x.2.1=0
   | some b=>∃ cur fz,w.heap[b]?=some (.cells cur e fz)∧x.2.2.length≤x.2.1∧x.2.1≤maxLen∧x.2.1*t.sz≤cur.size∧cur.toList.take (x.2.2.length*t.sz)=x.2.2.flatMap (z8 t)∧(fz=(0,0)∨x.2.2.length*t.sz≤fz.1)) ∧
   ∀ y∈x.2.2,holds F w t y
 | .st t,x=>holds F w t x
 | .pr a b,x=>holds F w a x.1∧holds F w b x.2
 | .int _,_=>True
 | .bool,_=>True
 | .str,_=>True
 | .un,_=>True
 | .rd t,x=>F t x.1.1 x.1.2

theorem z1s:∀ (t:Ty) (l:L t),(z8 t l).length=t.sz
 | .int _,_=>rfl
 | .bool,_=>rfl
 | .str,_=>rfl
 | .sl _ _,_=>rfl
 | .st t,l=>z1s t l
 | .pr a b,l=>by simp only [z8,List.length_append,z1s a,z1s b]; rfl
 | .un,_=>rfl
 | .rd _,l=>l.2.1

theorem z1l (t:Ty) (l:List (L t)):(l.flatMap (z8 t)).length=l.length*t.sz:=by
 induction l with
 | nil=>simp
 | cons x l ih=>simp only [List.flatMap_cons,List.length_append,ih,z1s,List.length_cons]; rw [Nat.add_mul,Nat.one_mul,Nat.add_comm]

theorem zec (t:Ty) (l:List (L t)) (i:Nat) (x:L t) (h:l[i]?=some x) (j:Nat) (hj:j<t.sz):(l.flatMap (z8 t))[i*t.sz+j]?=(z8 t x)[j]?:=by
 induction l generalizing i with
 | nil=>simp at h
 | cons y l ih =>
  rw [List.flatMap_cons]
  cases i with
  | zero =>
   simp only [List.getElem?_cons_zero,Option.some.injEq] at h
   subst h
   rw [Nat.zero_mul,Nat.zero_add,List.getElem?_append_left (by rw [z1s]; exact hj)]
  | succ i =>
   simp only [List.getElem?_cons_succ] at h
   rw [List.getElem?_append_right (by rw [z1s,Nat.add_mul,Nat.one_mul]; omega),z1s,Nat.add_mul,Nat.one_mul,
    show i*t.sz+t.sz+j-t.sz=i*t.sz+j by omega]
   exact ih i h

theorem z1t {F:Frz} {w w':World}:∀ {t:Ty} {l:L t},(∀ k∈z6 t l,w'.heap[k]?=w.heap[k]?)→holds F w t l→holds F w' t l
 | .int _,_,_,h=>h
 | .bool,_,_,h=>h
 | .str,_,_,h=>h
 | .sl e t,x,hb,h=>by
  obtain ⟨h1,h2⟩:=h
  refine ⟨?_,fun y hy=>z1t (fun k hk=>hb k ?_) (h2 y hy)⟩
  ·cases hx:x.1 with
   | none=>rw [hx] at h1; exact h1
   | some b =>
    rw [hx] at h1
    obtain ⟨cur,fz,hc,hr⟩:=h1
    exact ⟨cur,fz,(hb b (by simp [z6,hx])).trans hc,hr⟩
  ·simp only [z6,List.mem_append,List.mem_flatMap]
   exact .inr ⟨y,hy,hk⟩
 | .st t,x,hb,h=>z1t (t:=t) (l:=x) hb h
 | .pr a b,x,hb,h=>⟨z1t (fun k hk=>hb k (by simp [z6,hk])) h.1,z1t (fun k hk=>hb k (by simp [z6,hk])) h.2⟩
 | .un,_,_,h=>h
 | .rd _,_,_,h=>h

theorem z1d {F:Frz} {w:World}:∀ {t:Ty} {l:L t},holds F w t l→∀ k∈z6 t l,k<w.heap.size
 | .int _,_,_,k,hk=>by simp [z6] at hk
 | .bool,_,_,k,hk=>by simp [z6] at hk
 | .str,_,_,k,hk=>by simp [z6] at hk
 | .sl e t,x,h,k,hk=>by
  obtain ⟨h1,h2⟩:=h
  simp only [z6,List.mem_append,List.mem_flatMap] at hk
  rcases hk with hk | ⟨y,hy,hk⟩
  ·cases hx:x.1 with
   | none=>rw [hx] at hk; simp at hk
   | some b =>
    rw [hx] at h1 hk
    obtain ⟨cur,fz,hc,hr⟩:=h1
    simp at hk
    subst hk
    exact (Array.getElem?_eq_some_iff.1 hc).1
  ·exact z1d (h2 y hy) k hk
 | .st t,x,h,k,hk=>z1d (t:=t) (l:=x) h k hk
 | .pr a b,x,h,k,hk=>by
  simp only [z6,List.mem_append] at hk
  rcases hk with hk | hk
  ·exact z1d h.1 k hk
  ·exact z1d h.2 k hk
 | .un,_,_,k,hk=>by simp [z6] at hk
 | .rd _,_,_,k,hk=>by simp [z6] at hk

theorem z6f {F:Frz} {w:World} {ok:Nat→Prop} (hF:∀ t x cs,F t x cs→Rd w ok t x cs):∀ {t:Ty} {l:L t},(∀ k∈z6 t l,ok k)→holds F w t l→Rd w ok t (erase t l) (z8 t l)
 | .int _,_,_,_=>rfl
 | .bool,_,_,_=>rfl
 | .str,_,_,_=>rfl
 | .sl e t,x,hok,h=>by
  obtain ⟨h1,h2⟩:=h
  refine ⟨x.1.map fun g=>⟨g,0,none⟩,x.2.1,by simp [z8,erase],?_,fun hne=>?_⟩
  ·simp only [erase,List.length_map]
   cases hx:x.1 with
   | none=>rw [hx] at h1; simp [h1.1]
   | some b=>rw [hx] at h1; obtain ⟨cur,fz,hc,hl,_⟩:=h1; exact hl
  ·cases hx:x.1 with
   | none=>rw [hx] at h1; simp [erase,h1.1] at hne
   | some b =>
    rw [hx] at h1
    obtain ⟨cur,fz,hc,hl,hm,hsz,htk,_⟩:=h1
    refine ⟨⟨b,0,none⟩,rfl,hok b (by simp [z6,hx]),fun i y hy=>?_⟩
    simp only [erase,List.getElem?_map,Option.map_eq_some_iff] at hy
    obtain ⟨z,hz,rfl⟩:=hy
    have hmem:z∈x.2.2:=List.mem_of_getElem? hz
    refine ⟨z8 t z,z6f hF (fun k hk=>hok k ?_) (h2 z hmem),fun j u hu=>?_⟩
    ·simp only [z6,List.mem_append,List.mem_flatMap]; exact .inr ⟨z,hmem,hk⟩
    ·have hj:j<t.sz:=by have:=(List.getElem?_eq_some_iff.1 hu).1; rwa [z1s] at this
     have hi:i<x.2.2.length:=(List.getElem?_eq_some_iff.1 hz).1
     have hij:i*t.sz+j<x.2.2.length*t.sz:=by
      have:(i+1)*t.sz≤x.2.2.length*t.sz:=Nat.mul_le_mul_right _ hi
      rw [Nat.add_mul,Nat.one_mul] at this; omega
     rw [z2v,z2v,cell_of_row w b _ cur e fz hc]
     have e1:=zec t x.2.2 i z hz j hj
     rw [← htk,List.getElem?_take_of_lt hij,hu] at e1
     rw [show 0+i*t.sz+j=i*t.sz+j by omega,← Array.getElem?_toList]
     exact e1
 | .st t,x,hok,h=>z6f hF (t:=t) (l:=x) hok h
 | .pr a b,x,hok,h=>⟨z8 a x.1,z8 b x.2,rfl,z6f hF (fun k hk=>hok k (by simp [z6,hk])) h.1,z6f hF (fun k hk=>hok k (by simp [z6,hk])) h.2⟩
 | .un,_,_,_=>rfl
 | .rd t,x,_,h=>hF t _ _ h
theorem z5v {F G:Frz} {w:World} (hF:∀ t x cs,F t x cs→G t x cs):∀ {t:Ty} {l:L t},holds F w t l→holds G w t l
 | .int _,_,_=>trivial
 | .bool,_,_=>trivial
 | .str,_,_=>trivial
 | .sl _ _,_,h=>⟨h.1,fun y hy=>z5v hF (h.2 y hy)⟩
 | .st t,x,h=>z5v (t:=t) (l:=x) hF h
 | .pr _ _,_,h=>⟨z5v hF h.1,z5v hF h.2⟩
 | .un,_,_=>trivial
 | .rd _,_,h=>hF _ _ _ h
def Ty.noRd:Ty→Bool
 | .sl _ t=>t.noRd
 | .st t=>t.noRd
 | .pr a b=>a.noRd&&b.noRd
 | .rd _=>false
 | _=>true
theorem zce {F G:Frz} {w:World}:∀ {t:Ty} {l:L t},t.noRd=true→holds F w t l→holds G w t l
 | .int _,_,_,_=>trivial
 | .bool,_,_,_=>trivial
 | .str,_,_,_=>trivial
 | .sl _ t,_,hn,h=>⟨h.1,fun y hy=>zce (t:=t) hn (h.2 y hy)⟩
 | .st t,x,hn,h=>zce (t:=t) (l:=x) hn h
 | .pr _ _,_,hn,h=>by
  simp only [Ty.noRd,Bool.and_eq_true] at hn
  exact ⟨zce hn.1 h.1,zce hn.2 h.2⟩
 | .un,_,_,_=>trivial
 | .rd _,_,hn,_=>by cases hn

structure Kept (O:Nat→Prop) (w w':World):Prop where
 os:w'.os=w.os
 tape:w'.tape=w.tape
 output:w'.output=w.output
 size:w.heap.size≤w'.heap.size
 block:∀ k,k<w.heap.size→¬ O k→w'.heap[k]?=w.heap[k]?

theorem Kept.refl (O:Nat→Prop) (w:World):Kept O w w:=⟨rfl,rfl,rfl,Nat.le_refl _,fun _ _ _=>rfl⟩
theorem Kept.trans {O O':Nat→Prop} {a b c:World} (h:Kept O a b) (k:Kept O' b c) (hO:∀ i,i<a.heap.size→O' i→O i):Kept O a c :=
 ⟨k.os.trans h.os,k.tape.trans h.tape,k.output.trans h.output,Nat.le_trans h.size k.size,
  fun i hi ho=>(k.block i (Nat.lt_of_lt_of_le hi h.size) (fun ho'=>ho (hO i hi ho'))).trans (h.block i hi ho)⟩
theorem Kept.below {w w':World} (h:Kept (fun _=>False) w w'):Below w.heap.size w w':=⟨h.os,h.tape,h.output,h.size,fun k hk=>h.block k hk (fun h=>h)⟩
theorem Kept.of_below {w w':World} (h:Below w.heap.size w w') (O:Nat→Prop):Kept O w w':=⟨h.os,h.tape,h.output,h.size,fun k hk _=>h.block k hk⟩
theorem Kept.alloc (w:World) (o:Obj) (O:Nat→Prop):Kept O w (w.alloc o) :=
 ⟨rfl,rfl,rfl,by simp,fun k hk _=>Below.heap_alloc w o k hk⟩
theorem Kept.drawn (w:World) (n:Nat) (O:Nat→Prop):Kept O w { w with drawn:=n }:=⟨rfl,rfl,rfl,Nat.le_refl _,fun _ _ _=>rfl⟩
def zuc (w:World) (t:Ty) (x:Option Nat×Nat×List (L t)):Prop:=∀ b,x.1=some b→∃ cur e,w.heap[b]?=some (.cells cur e (0,0))∧cur.size=x.2.1*t.sz
def plain (w:World):(t:Ty)→L t→Prop
 | .sl e t,x=>zuc w t x∧∀ y∈x.2.2,plain w t y
 | .st t,x=>plain w t x
 | .pr a b,x=>plain w a x.1∧plain w b x.2
 | .int _,_=>True
 | .bool,_=>True
 | .str,_=>True
 | .un,_=>True
 | .rd _,_=>True
theorem z1u {w w':World}:∀ {t:Ty} {l:L t},(∀ k∈z6 t l,w'.heap[k]?=w.heap[k]?)→plain w t l→plain w' t l
 | .int _,_,_,h=>h
 | .bool,_,_,h=>h
 | .str,_,_,h=>h
 | .sl e t,x,hb,h=>by
  obtain ⟨h1,h2⟩:=h
  refine ⟨fun b hx=>?_,fun y hy=>z1u (fun k hk=>hb k ?_) (h2 y hy)⟩
  ·obtain ⟨cur,e,hc,hr⟩:=h1 b hx
   exact ⟨cur,e,(hb b (by simp [z6,hx])).trans hc,hr⟩
  ·simp only [z6,List.mem_append,List.mem_flatMap]
   exact .inr ⟨y,hy,hk⟩
 | .st t,x,hb,h=>z1u (t:=t) (l:=x) hb h
 | .pr a b,x,hb,h=>⟨z1u (fun k hk=>hb k (by simp [z6,hk])) h.1,z1u (fun k hk=>hb k (by simp [z6,hk])) h.2⟩
 | .un,_,_,h=>h
 | .rd _,_,_,h=>h
end Go.Proofs.YtjbnebolfnjneaaGreatDoor.Ev

/- The evaluator: Go's loaded code z4r plain values. Definitions only; nothing is claimed of the machine here. -/
namespace Go.Proofs.YtjbnebolfnjneaaGreatDoor.Ev

inductive Step where
 | ix (n:Nat)
 | f (b:Bool)
 | u

inductive SV where
 | val (t:Ty) (x:t.T)
 | ref (i:Nat) (p:List Step)
 | vw (i lo n:Nat)
 | ls (i:Nat)
 | st (s:SV)
 | pr (a b:SV)
 | bp (i:Nat) (p:List Bool) (o:Nat)
 | ep (i:Nat) (p:List Step) (n:Nat) (f:List Bool) (o:Nat)
 | lp (i n:Nat)
 | clo (g:FuncId) (c:SV)
 | tup (s:SV)
 | cns (a b:SV)
 | nl
 | no
 | er (b:Bool)
 | un

inductive PK where
 | ix | f (b:Bool) | u
@[reducible] def PT : List PK → Type
 | []=>Unit
 | .ix::p=>Nat×PT p
 | .f _::p=>PT p
 | .u::p=>PT p
inductive SK where
 | val (t:Ty)
 | ref (i:Nat) (p:List PK)
 | vw (i:Nat)
 | ls (i:Nat)
 | st (s:SK)
 | pr (a b:SK)
 | bp (i:Nat) (p:List Bool) (o:Nat)
 | clo (g:FuncId) (s:SK)
 | tup (s:SK)
 | cns (a b:SK)
 | nl
 | no
 | er
 | un
@[reducible] def SK.T : SK → Type
 | .val t=>t.T
 | .ref _ p=>PT p
 | .vw _=>Nat×Nat
 | .st s=>s.T
 | .pr a b=>a.T×b.T
 | .clo _ s=>s.T
 | .tup s=>s.T
 | .cns a b=>a.T×b.T
 | .er=>Bool
 | _=>Unit
structure Head where
 sl:List (Nat×SK)
 rows:List (Nat×TypeId×Ty×Bool)
 bx:List (Nat×TypeId×SK)
@[reducible] def slT : List (Nat × SK) → Type
 | []=>Unit
 | (_,s)::l=>s.T×slT l
@[reducible] def zaa : List (Nat × TypeId × Ty × Bool) → Type
 | []=>Unit
 | (_,_,t,_)::l=>List t.T×zaa l
@[reducible] def bxT : List (Nat × TypeId × SK) → Type
 | []=>Unit
 | (_,_,s)::l=>s.T×bxT l
@[reducible] def Head.T (h : Head) : Type := slT h.sl × zaa h.rows × bxT h.bx
structure OC where
 hi:Head
 ho:Head
 F:hi.T→Option ho.T
 /-- It makes something read-only. -/
 ch:Bool

structure Row where
 e:TypeId
 t:Ty
 xs:List t.T
 z:Bool
structure Bx where
 ty:TypeId
 c:SV
structure St where
 sl:List (Nat×SV)
 rows:List (Nat×Row)
 bx:List (Nat×Bx)
structure SVal where
 t:Ty
 x:t.T
structure CR where
 n:Nat
 t:Ty
 v:Option t.T
inductive Sh where
 | int (k:IntKind) | bool | str | sl (e:TypeId) | st (fs:List (TypeId×Nat)) | ptr (e:TypeId) | fn | oth
structure TI where
 sh:Sh
 ty:Ty
 bytes:Nat
structure Env where
 ti:List TI
 call:FuncId→List SVal→Option CR
 /-- Calls that are handed rows and variables, by their slot. -/
 opn:Nat→Option (FuncId×OC)
 /-- Ghosts: the headers of rows, the blocks of variables that stay where they are. -/
 pins:Nat→Value
 pinB:Nat→Nat
def PIN:Nat:=1000000000

def Env.rdm (E:Env):Bool:=E.ti.any fun i=>!i.ty.noRd
def Ty.strip:Ty→Ty
 | .sl e t=>.sl e t.strip
 | .st t=>.st t.strip
 | .pr a b=>.pr a.strip b.strip
 | .ptr t=>.ptr t.strip
 | .fn g c=>.fn g c.strip
 | .rd t=>t.strip
 | t=>t
theorem z5w:∀ t:Ty,t.strip.T=t.T
 | .sl e t=>congrArg List (z5w t)
 | .st t=>z5w t
 | .pr a b=>(congrArg (fun A=>A×b.strip.T) (z5w a)).trans (congrArg (fun B=>a.T×B) (z5w b))
 | .ptr t=>z5w t
 | .fn _ c=>z5w c
 | .rd t=>z5w t
 | .fs _=>rfl
 | .int _=>rfl
 | .bool=>rfl
 | .str=>rfl
 | .un=>rfl
def z5x (t:Ty) (x:t.T):t.strip.T:=cast (z5w t).symm x
def Ty.bare:Ty→Bool
 | .sl _ t=>t.bare
 | .st t=>t.bare
 | .pr a b=>a.bare&&b.bare
 | .ptr t=>t.bare
 | .fn _ c=>c.bare
 | .rd _=>false
 | _=>true
def Ty.isRd:Ty→Bool | .rd _=>true | _=>false
def SVal.strip (v:SVal):SVal:=bif v.t.bare||v.t.isRd then v else ⟨v.t.strip,z5x v.t v.x⟩
def lk {α:Type}:List (Nat×α)→Nat→Option α
 | [],_=>none
 | (k,v)::r,n=>bif Nat.beq k n then some v else lk r n

def rm {α:Type}:List (Nat×α)→Nat→List (Nat×α)
 | [],_=>[]
 | (k,v)::r,n=>bif Nat.beq k n then rm r n else (k,v)::rm r n

def Ty.flat:Ty→Bool
 | .int _ | .bool | .str=>true
 | .st t=>t.flat
 | .pr a b=>a.flat&&b.flat
 | _=>false

def Ty.zero:(t:Ty)→Option t.T
 | .int _=>some (0:Int)
 | .bool=>some false
 | .str=>some ([]:List UInt8)
 | .sl _ _=>some []
 | .st t=>t.zero
 | .pr a b=>match a.zero,b.zero with | some x,some y=>some (x,y) | _,_=>none
 | _=>none

def Ty.deq:(t:Ty)→t.flat=true→DecidableEq t.T
 | .int _,_=>inferInstanceAs (DecidableEq Int)
 | .bool,_=>inferInstanceAs (DecidableEq Bool)
 | .str,_=>inferInstanceAs (DecidableEq (List UInt8))
 | .st t,h=>Ty.deq t h
 | .pr a b,h=>@instDecidableEqProd _ _ (Ty.deq a (by simp [Ty.flat] at h; exact h.1)) (Ty.deq b (by simp [Ty.flat] at h; exact h.2))

def SV.kill (i:Nat):SV→SV
 | .ref j p=>bif Nat.beq i j then .un else .ref j p
 | .vw j a b=>bif Nat.beq i j then .un else .vw j a b
 | .ep j p n f o=>bif Nat.beq i j then .un else .ep j p n f o
 | .st s=>.st (s.kill i)
 | .pr a b=>.pr (a.kill i) (b.kill i)
 | .clo g c=>.clo g (c.kill i)
 | .tup s=>.tup (s.kill i)
 | .cns a b=>.cns (a.kill i) (b.kill i)
 | v=>v
def SV.killB (i:Nat):SV→SV
 | .bp j p o=>bif Nat.beq i j then .un else .bp j p o
 | .ls j=>bif Nat.beq i j then .un else .ls j
 | .lp j n=>bif Nat.beq i j then .un else .lp j n
 | .st s=>.st (s.killB i)
 | .pr a b=>.pr (a.killB i) (b.killB i)
 | .clo g c=>.clo g (c.killB i)
 | .tup s=>.tup (s.killB i)
 | .cns a b=>.cns (a.killB i) (b.killB i)
 | v=>v
def zw {α β:Type} (f:α→β):List (Nat×α)→List (Nat×β)
 | []=>[]
 | (k,v)::r=>(k,f v)::zw f r
def St.drop (σ:St) (i:Nat):St:=⟨zw (SV.kill i) σ.sl,rm σ.rows i,zw (fun b=>⟨b.ty,b.c.kill i⟩) σ.bx⟩
def St.dropB (σ:St) (i:Nat):St:=⟨zw (SV.killB i) σ.sl,σ.rows,zw (fun b=>⟨b.ty,b.c.killB i⟩) (rm σ.bx i)⟩
def St.put (σ:St) (d:Option Tmp) (v:SV):St:=match d with | some d=>⟨(d,v)::σ.sl,σ.rows,σ.bx⟩ | none=>σ
def St.addRow (σ:St) (i:Nat) (r:Row):St:=let σ:=match lk σ.rows i with | some _=>σ.drop i | none=>σ; ⟨σ.sl,(i,r)::σ.rows,σ.bx⟩
def z22 {α:Type} (xs:List α) (lo:Nat) (ys:List α):List α:=xs.take lo++ys++xs.drop (lo+ys.length)
def z4h:List Nat→Bool
 | []=>true
 | i::l=>!(l.any (Nat.beq i))&&z4h l
def St.add (σ:St) (nr:List (Nat×Row)) (nb:List (Nat×Bx)):St:=⟨σ.sl,nr++σ.rows,nb++σ.bx⟩
def St.fresh (σ:St) (d:Nat) (nr:List (Nat×Row)) (nb:List (Nat×Bx)):Bool :=
 nr.all (fun x=>(Nat.beq (x.1 / 32) d&&Nat.blt x.1 PIN)&&(match lk σ.rows x.1 with | none=>true | some _=>false))&&z4h (nr.map (·.1)) &&
 (match nb with | []=>true | [x]=>(Nat.beq x.1 d&&Nat.blt x.1 PIN)&&(match lk σ.bx x.1 with | none=>true | some _=>false) | _=>false)
def St.clean (σ:St) (d:Nat):St :=
 let σ:=(σ.rows.filterMap (fun x=>bif Nat.beq (x.1 / 32) d then some x.1 else none)).foldl St.drop σ
 match lk σ.bx d with | some _=>σ.dropB d | none=>σ
def Env.known (E:Env) (t:TypeId):Bool:=match E.ti[t]? with | some ⟨.oth,_,_⟩=>false | some _=>true | none=>false
def Env.isStr (E:Env) (t:TypeId):Bool:=match E.ti[t]? with | some ⟨.str,_,_⟩=>true | _=>false
def Env.isSl (E:Env) (t:TypeId):Bool:=match E.ti[t]? with | some ⟨.sl _,_,_⟩=>true | _=>false
def Env.elemSz (E:Env) (t:TypeId):Nat:=match E.ti[t]? with | some ⟨.sl _,.sl _ u,_⟩=>u.sz | _=>0
def Env.tyOf (E:Env) (t:TypeId):Ty:=match E.ti[t]? with | some i=>i.ty | none=>.un

noncomputable section
variable {R : Type}

def zf (u t:Ty) (x:u.T) (k:t.T→Option R):Option R:=if h:u=t then k (h▸x) else none

def z3h:(t:Ty)→t.T→List Step→((u:Ty)→u.T→Option R)→Option R
 | .sl e t,xs,p,k=>match p with
  | []=>k (.sl e t) xs
  | .ix n::p=>(xs[n]?).bind fun x=>z3h t x p k
  | .f _::_=>none
  | .u::_=>none
 | .st t,x,p,k=>match p with
  | []=>k (.st t) x
  | .u::p=>z3h t x p k
  | s::p=>z3h t x (s::p) k
 | .pr a b,x,p,k=>match p with
  | []=>k (.pr a b) x
  | .f false::p=>z3h a x.1 p k
  | .f true::p=>z3h b x.2 p k
  | .ix _::_=>none
  | .u::_=>none
 | t,x,p,k=>match p with
  | []=>k t x
  | _::_=>none

def z5i:(t:Ty)→t.T→List Step→(u:Ty)→u.T→(t.T→Option R)→Option R
 | .sl e t,xs,p,u,y,k=>match p with
  | []=>zf u (.sl e t) y k
  | .ix n::p=>(xs[n]?).bind fun x=>z5i t x p u y fun x'=>k (xs.set n x')
  | .f _::_=>none
  | .u::_=>none
 | .st t,x,p,u,y,k=>match p with
  | []=>if h:u=.st t then k (h▸y) else zf u t y k
  | .u::p=>z5i t x p u y k
  | s::p=>z5i t x (s::p) u y k
 | .pr a b,x,p,u,y,k=>match p with
  | []=>zf u (.pr a b) y k
  | .f false::p=>z5i a x.1 p u y fun z=>k (z,x.2)
  | .f true::p=>z5i b x.2 p u y fun z=>k (x.1,z)
  | .ix _::_=>none
  | .u::_=>none
 | t,x,p,u,y,k=>match p with
  | []=>zf u t y k
  | _::_=>none

def z3i (b:Bool):Step:=.f b
def zud (i n:Nat):List Bool:=List.replicate i true++(bif Nat.beq (i+1) n then [] else [false])

def SV.half:SV→Bool→Option SV
 | .val t x,b=>match t,x,b with
  | .pr a _,x,false=>some (.val a x.1)
  | .pr _ c,x,true=>some (.val c x.2)
  | .st (.pr a _),x,false=>some (.val a x.1)
  | .st (.pr _ c),x,true=>some (.val c x.2)
  | _,_,_=>none
 | .pr a _,false=>some a
 | .pr _ c,true=>some c
 | .st (.pr a _),false=>some a
 | .st (.pr _ c),true=>some c
 | _,_=>none
def SV.part:SV→List Bool→Option SV
 | s,[]=>some s
 | s,b::p=>match s.half b with | some s=>s.part p | none=>none
def SV.inside:SV→SV
 | .val (.st t) x=>.val t x
 | .st s=>s
 | s=>s
def SV.w:SV→Nat
 | .val t _=>t.sz
 | .st s=>s.w
 | .pr a b=>a.w+b.w
 | .ref _ _=>1
 | .vw _ _ _=>1
 | .ls _=>1
 | .bp _ _ _=>1
 | .ep _ _ _ _ _=>1
 | .lp _ _=>1
 | .clo _ _=>1
 | .un=>1
 | .er _=>1
 | _=>0
def SV.isUn:SV→Bool | .un=>true | _=>false
def Ty.isSt:Ty→Bool | .st _=>true | _=>false
def SV.isSt:SV→Bool | .st _=>true | .val (.st _) _=>true | _=>false
def SV.offP:SV→List Bool→Nat
 | _,[]=>0
 | s,b::p=>match s.half false,s.half true with
  | some l,some r=>match b with
   | false=>l.offP p
   | true=>l.w+r.offP p
  | _,_=>0
def Ty.offP:Ty→List Bool→Nat
 | .pr a b,p=>match p with
  | []=>0
  | false::p=>a.offP p
  | true::p=>a.sz+b.offP p
 | .st t,p=>t.offP p
 | _,_=>0
def SV.okW (s:SV) (t:Ty):Bool:=!s.isUn&&((s.isSt==t.isSt)&&Nat.beq s.w t.sz&&!Nat.beq t.sz 0)
def SV.frame (s r:SV):SV:=bif s.isSt then .st r else r
def SV.setPart:SV→List Bool→SV→Option SV
 | _,[],y=>some y
 | s,b::p,y=>match s.half false,s.half true with
  | some l,some r=>match b with
   | false=>match l.setPart p y with | some l=>some (s.frame (.pr l r)) | none=>none
   | true=>match r.setPart p y with | some r=>some (s.frame (.pr l r)) | none=>none
  | _,_=>none

def z2g:(t:Ty)→t.T→Nat→List Step→SV
 | .sl e t,x,i,p=>.ref i p
 | .st t,x,i,p=>bif t.flat then .val (.st t) x else .st (z2g t x i (p++[.u]))
 | .pr a b,x,i,p=>.pr (z2g a x.1 i (p++[.f false])) (z2g b x.2 i (p++[.f true]))
 | t,x,i,p=>.val t x

def zo:(t:Ty)→t.T→Nat→SV×List (Nat×Row)×Nat
 | .sl e t,xs,n=>(.ref n [],[(n,⟨e,t,xs,false⟩)],n+1)
 | .st t,x,n=>bif t.flat then (.val (.st t) x,[],n) else let r:=zo t x n; (.st r.1,r.2.1,r.2.2)
 | .pr a b,x,n=>let r:=zo a x.1 n; let s:=zo b x.2 r.2.2; (.pr r.1 s.1,r.2.1++s.2.1,s.2.2)
 | t,x,n=>(.val t x,[],n)
def z1x:Nat→SV→SV
 | 0,_=>.nl
 | 1,s=>.cns s .nl
 | n+2,.pr a b=>.cns a (z1x (n+1) b)
 | _,_=>.un
def newT:Nat→(t:Ty)→t.T→Nat→SV×List (Nat×Row)
 | 0,_,_,_=>(.tup .nl,[])
 | 1,t,x,n=>let r:=zo t x n; (r.1,r.2.1)
 | m+2,t,x,n=>let r:=zo t x n; (.tup (z1x (m+2) r.1),r.2.1)

def lsC (rc:SV→((u:Ty)→u.T→Option R)→Option R) (t:Ty):SV→(List t.T→Option R)→Option R
 | .nl,k=>k []
 | .cns a b,k=>rc a fun u x=>zf u t x fun x=>lsC rc t b fun xs=>k (x::xs)
 | _,_=>none

def zj (E:Env) (σ:St):Nat→SV→((t:Ty)→t.T→Option R)→Option R
 | 0,_,_=>none
 | d+1,s,k=>match s with
  | .val t x=>k t x
  | .ref i p=>match lk σ.rows i with
   | some r=>z3h (.sl r.e r.t) r.xs p k
   | none=>none
  | .vw i lo n=>match lk σ.rows i with
   | some r=>k (.sl r.e r.t) ((r.xs.drop lo).take n)
   | none=>none
  | .ls i=>match lk σ.bx i with
   | some b=>lsC (zj E σ d) (E.tyOf b.ty) b.c fun xs=>k (.sl b.ty (E.tyOf b.ty)) xs
   | none=>none
  | .st s=>zj E σ d s fun t x=>k (.st t) x
  | .pr a b=>zj E σ d a fun t x=>zj E σ d b fun u y=>k (.pr t u) (x,y)
  | .bp i p o=>match lk σ.bx i with
   | some b=>match b.c.part p with
    | some s=>bif Nat.beq (b.c.offP p) o then (zj E σ d s fun t x=>k (.ptr t) x) else none
    | none=>none
   | none=>none
  | .ep i p n f o=>match lk σ.rows i with
   | some r=>z3h (.sl r.e r.t) r.xs (p++[.ix n]) fun t x=>bif Nat.beq (t.offP f) o then (z3h t x (f.map z3i) fun t x=>k (.ptr t) x) else none
   | none=>none
  | .clo g c=>zj E σ d c fun t x=>k (.fn g t) x
  | .no=>k .un ()
  | _=>none
def depth:Nat:=64

def z4s (E:Env) (σ:St):List SV→(List SVal→Option R)→Option R
 | [],k=>k []
 | s::l,k=>zj E σ depth s fun t x=>z4s E σ l fun r=>k (⟨t,x⟩::r)

def cst:Value→Option SV
 | .int k n=>some (.val (.int k) n)
 | .bool b=>some (.val .bool b)
 | .string s=>some (.val .str s.data.toList)
 | .pointer none=>some .un
 | .slice none 0 0=>none
 | _=>none
def opd (σ:St):Operand→Option SV
 | .tmp s=>lk σ.sl s
 | .const v=>cst v
 | .func f=>some (.clo f .no)
 | .global _=>none
def z4t (σ:St):List Operand→Option (List SV)
 | []=>some []
 | x::l=>match opd σ x,z4t σ l with | some s,some r=>some (s::r) | _,_=>none

def z8t (k:IntKind) (f:(a b:BitVec k.bits)→BitVec k.bits) (x y:Int):Int:=k.wrap (f (BitVec.ofInt k.bits x) (BitVec.ofInt k.bits y)).toNat

def z7t (op:BinOp) (k:IntKind) (x y:Int) (c:(t:Ty)→t.T→Option R):Option R :=
 match op with
 | .add=>c (.int k) (k.wrap (x+y))
 | .sub=>c (.int k) (k.wrap (x-y))
 | .mul=>c (.int k) (k.wrap (x*y))
 | .quo=>if y=0 then none else c (.int k) (k.wrap (x.tdiv y))
 | .rem=>if y=0 then none else c (.int k) (x.tmod y)
 | .and=>c (.int k) (z8t k (· &&& ·) x y)
 | .or=>c (.int k) (z8t k (· ||| ·) x y)
 | .xor=>c (.int k) (z8t k (· ^^^ ·) x y)
 | .andNot=>c (.int k) (z8t k (fun a b=>a &&& ~~~ b) x y)
 | .eql=>c .bool (decide (x=y))
 | .neq=>c .bool (!decide (x=y))
 | .lss=>c .bool (decide (x<y))
 | .leq=>c .bool (decide (x≤y))
 | .gtr=>c .bool (decide (y<x))
 | .geq=>c .bool (decide (y≤x))
 | _=>none
def z8u (op:BinOp) (x y:List UInt8) (c:(t:Ty)→t.T→Option R):Option R :=
 match op with
 | .add=>if x.length+y.length≤9223372036854775807 then c .str (x++y) else none
 | .eql=>c .bool (decide (x=y))
 | .neq=>c .bool (!decide (x=y))
 | .lss=>c .bool (Op.bytesLess x y)
 | .leq=>c .bool (Op.bytesLess x y||decide (x=y))
 | .gtr=>c .bool (!(Op.bytesLess x y||decide (x=y)))
 | .geq=>c .bool (!Op.bytesLess x y)
 | _=>none
def z5j (i:Option TI) (op:BinOp):(t u:Ty)→t.T→u.T→((t:Ty)→t.T→Option R)→Option R
 | .int k,.int l,x,y,c =>
  match op with
  | .shl=>if y<0 then none else c (.int k) (k.wrap (x*2 ^ min y.toNat k.bits))
  | .shr=>if y<0 then none else c (.int k) (x.fdiv (2 ^ min y.toNat k.bits))
  | op=>if k=l then z7t op k x y c else none
 | .bool,.bool,x,y,c=>match i with
  | some ⟨.bool,_,_⟩=>match op with
   | .eql=>c .bool (x==y)
   | .neq=>c .bool (!(x==y))
   | _=>none
  | _=>none
 | .str,.str,x,y,c=>z8u op x y c
 | .st t,.st u,x,y,c=>match i with
  | some ⟨.st _,v,_⟩=>if h:u=t then (if v=.st t then (if hf:t.flat=true then (match op with
   | .eql=>c .bool (@decide (x=h▸y) (Ty.deq t hf x (h▸y)))
   | .neq=>c .bool (!@decide (x=h▸y) (Ty.deq t hf x (h▸y)))
   | _=>none) else none) else none) else none
  | _=>none
 | _,_,_,_,_=>none

def LIM:Nat:=140737488355328

def z31 (E:Env) (σ:St) (x:Option Operand) (dflt:Int) (k:Int→Option R):Option R :=
 match x with
 | none=>k dflt
 | some x=>match opd σ x with
  | some (.val (.int _) n)=>k n
  | _=>none

def z6w (want u:Ty) (x:u.T) (k:(t:Ty)→t.T→Option R):Option R :=
 if u=want then k u x else match u,x with
  | .st v,x=>if v=want then k v x else none
  | _,_=>none
def SV.fit (want:Ty):SV→SV
 | .st s=>bif want.isSt then .st s else s.fit want
 | .val (.st t) x=>bif want.isSt then .val (.st t) x else .val t x
 | s=>s
def SV.like:SV→SV→SV
 | .st o,.st s=>.st (o.like s)
 | .st o,.val (.st t) x=>.val (.st t) x
 | .st o,s=>.st s
 | .val (.st t) x,.st s=>.st s
 | .val (.st t) x,.val (.st u) y=>.val (.st u) y
 | .val (.st t) x,s=>.st s
 | _,s=>s
def SV.nth:SV→Nat→Option SV
 | .cns a _,0=>some a
 | .cns _ b,n+1=>b.nth n
 | _,_=>none
def SV.isCh:SV→Bool | .nl=>true | .cns _ _=>true | _=>false
def SV.count:SV→Nat
 | .cns _ b=>b.count+1
 | _=>0
def z2w:List SV→SV
 | []=>.nl
 | s::l=>.cns s (z2w l)
def SV.okCap:SV→Bool | .un=>false | .tup _=>false | s=>!s.isSt
def z7u:List SV→SV
 | []=>.no
 | [a]=>a
 | a::l=>.pr a (z7u l)
def SV.caps:SV→List SV
 | .no=>[]
 | .pr a b=>a::b.caps
 | s=>[s]
def z8v:(t:Ty)→t.T→List SVal
 | .un,_=>[]
 | .pr a b,x=>⟨a,x.1⟩::z8v b x.2
 | t,x=>[⟨t,x⟩]
def SV.cap1 (s:SV):Bool:=Nat.beq s.w 1&&!s.isSt
def SVal.cap1 (a:SVal):Bool:=Nat.beq a.t.sz 1&&!a.t.isSt
def Env.field (E:Env) (t:TypeId) (i:Nat):Option (List Bool×TypeId×Nat):=match E.ti[t]? with
 | some ⟨.st fs,_,_⟩=>match fs[i]? with | some (f,o)=>some (zud i fs.length,f,o) | none=>none
 | _=>none
def zab:List Nat→Nat→Bool
 | [],_=>true
 | [i],n=>Nat.blt i n
 | i::j::l,n=>Nat.blt i j&&zab (j::l) n
def zac:List (Nat×Operand)→Nat→Bool
 | [],_=>true
 | (i,_)::l,n=>Nat.beq i n&&zac l (n+1)
def z7v (E:Env) (σ:St) (parts:List (Nat×Operand)) (f:TypeId) (i n:Nat):Option (SV×List (Nat×Row)×Nat) :=
 match lk parts i with
 | some (.const (.slice none 0 0))=>match E.tyOf f with | .sl e t=>some (.ref n [],[(n,⟨e,t,[],false⟩)],n+1) | _=>none
 | some x=>match opd σ x with | some s=>some (s,[],n) | none=>none
 | none=>match (E.tyOf f).zero with | some z=>some (zo (E.tyOf f) z n) | none=>none
def z6x (E:Env) (σ:St) (parts:List (Nat×Operand)):List (TypeId×Nat)→Nat→Nat→Option (SV×List (Nat×Row))
 | [],_,_=>none
 | (f,_)::fs,i,n=>match z7v E σ parts f i n with
  | some (s,r,m)=>bif s.okW (E.tyOf f) then (match fs with
   | []=>some (s,r)
   | fs=>match z6x E σ parts fs (i+1) m with | some (s',r')=>some (.pr s s',r++r') | none=>none) else none
  | none=>none

def SV.asFs (t:Ty) (s:SV):SV:=match t,s with
 | .fs ids,.clo g .no=>bif ids.any (Nat.beq g) then .val (.fs ids) g else .clo g .no
 | _,s=>s
def Ty.fillable (t:Ty):Bool:=match t with | .fs _=>true | t=>t.zero.isSome
def RON:Nat:=999
def SV.isV:SV→Bool | .val _ _=>true | _=>false
def NBN:Nat:=1000
def z5k:(t:Ty)→t.T→SV
 | .st t,x=>.st (z5k t x)
 | .pr a b,x=>.pr (z5k a x.1) (z5k b x.2)
 | t,x=>.val t x
def z8w (E:Env) (g:FuncId) (args:List SVal) (vo:Bool) (d:Nat) (k:SV→List (Nat×Row)→List (Nat×Bx)→Option R):Option R :=
 match E.call g (args.map SVal.strip) with
 | some ⟨n,t,v⟩=>bif Nat.beq n RON then (bif vo then (v.bind fun r=>k (.val t r) [] []) else none) else bif Nat.blt RON n then (bif vo then (v.bind fun r=>k (.bp d [] 0) [] [(d,⟨n-NBN,z5k t r⟩)]) else none) else v.bind fun r=>let s:=newT n t r (32*d); k s.1 s.2 []
 | none=>none

def z8x (E:Env) (g:Nat) (args:List SVal) (vo:Bool) (d:Nat) (k:SV→List (Nat×Row)→List (Nat×Bx)→Option R):List FuncId→Option R
 | []=>none
 | a::l=>if g=a then z8w E a args vo d k else z8x E g args vo d k l
def zp (o:Oper):Nat:=match o.dst with | some d=>d | none=>0
def z12 (E:Env) (σ:St) (o:Oper) (k:SV→List (Nat×Row)→List (Nat×Bx)→Option R):Option R :=
 let d:=zp o
 match o.op with
 | .move x | .assign x=>match x with
  | .const (.slice none 0 0)=>match E.ti[o.type]? with
   | some ⟨.sl e,.sl _ t,_⟩=>k (.ref (32*d) []) [(32*d,⟨e,t,[],false⟩)] []
   | _=>none
  | x=>match opd σ x with | some s=>k s [] [] | none=>none
 | .pick c a b=>match opd σ c with
  | some (.val .bool p)=>if p=true then (match opd σ a with | some s=>k s [] [] | none=>none) else (match opd σ b with | some s=>k s [] [] | none=>none)
  | _=>none
 | .unOp op _ x=>match op,opd σ x with
  | .not,some (.val .bool b)=>k (.val .bool (!b)) [] []
  | .neg,some (.val (.int i) n)=>k (.val (.int i) (i.wrap (0-n))) [] []
  | _,_=>none
 | .binOp op xt x y _=>match opd σ x,opd σ y with
  | some sx,some sy=>zj E σ depth sx fun t a=>zj E σ depth sy fun u b=>z5j E.ti[xt]? op t u a b fun t z=>k (.val t z) [] []
  | _,_=>none
 | .convert s t x=>match opd σ x with
  | some sx=>bif !E.known s then none else match E.ti[t]? with
   | some ⟨.int i,_,_⟩=>match sx with
    | .val (.int _) n=>k (.val (.int i) (i.wrap n)) [] []
    | _=>none
   | some ⟨.str,_,_⟩=>match sx with
    | .val .str x=>k (.val .str x) [] []
    | sx=>match E.ti[s]? with
     | some ⟨.sl _,.sl _ (.int .u8),_⟩=>zj E σ depth sx fun t xs=>match t,xs with
      | .sl _ (.int .u8),xs=>k (.val .str (xs.map fun (n:Int)=>n.toNat.toUInt8)) [] []
      | _,_=>none
     | _=>none
   | some ⟨.sl e,.sl _ (.int .u8),_⟩=>match sx with
    | .val .str x=>if x.length≤LIM then k (.ref (32*d) []) [(32*d,⟨e,.int .u8,x.map fun b=>(b.toNat:Int),true⟩)] [] else none
    | _=>none
   | _=>none
  | none=>none
 | .makeFunc fn first caps=>match fn with
  | .func g=>match first.toList,z4t σ caps.toList with
   | [],some l=>bif l.all SV.okCap then k (.clo g (z7u l)) [] [] else none
   | _,_=>none
  | _=>none
 | .extract x i=>match opd σ x with
  | some (.tup s)=>match s.nth i with | some s=>k s [] [] | none=>none
  | _=>none
 | .nilCheck x=>match opd σ x with
  | some (.val (.ptr t) x)=>k (.val (.ptr t) x) [] []
  | some (.bp i p o)=>k (.bp i p o) [] []
  | some (.ep i p n f o)=>k (.ep i p n f o) [] []
  | some (.clo g c)=>k (.clo g c) [] []
  | some (.val (.fn g c) x)=>k (.val (.fn g c) x) [] []
  | some (.val (.fs ids) x)=>k (.val (.fs ids) x) [] []
  | _=>none
 | .fieldAddr t x i=>match E.field t i with
  | some (p,f,o)=>match opd σ x with
   | some (.val (.ptr u) x)=>match (SV.val u x).inside.part p with
    | some (.val v y)=>bif Nat.beq ((SV.val u x).inside.offP p) o then k (.val (.ptr v) y) [] [] else none
    | _=>none
   | some (.bp j q c)=>k (.bp j (q++p) (c+o)) [] []
   | some (.ep j q n g c)=>k (.ep j q n (g++p) (c+o)) [] []
   | _=>none
  | none=>none
 | .field t x i=>match E.field t i with
  | some (p,f,o)=>match opd σ x with
   | some s=>match s.inside.part p with
    | some r=>bif s.isSt&&Nat.beq (s.inside.offP p) o&&r.okW (E.tyOf f) then k r [] [] else none
    | none=>none
   | none=>none
  | none=>none
 | .indexAddr xt x i=>match opd σ x,opd σ i with
  | some s,some (.val (.int _) n)=>match s with
   | .val (.sl _ u) xs=>bif Nat.beq u.sz (E.elemSz xt)&&!Nat.beq u.sz 0 then (if 0≤n then (xs[n.toNat]?).bind fun y=>k (.val (.ptr u) y) [] [] else none) else none
   | .ref j p=>zj E σ depth (.ref j p) fun t xs=>match t,xs with
    | .sl _ u,xs=>bif Nat.beq u.sz (E.elemSz xt)&&!Nat.beq u.sz 0 then (if 0≤n∧n.toNat<List.length xs then k (.ep j p n.toNat [] 0) [] [] else none) else none
    | _,_=>none
   | .vw j lo m=>match lk σ.rows j with
    | some r=>bif Nat.beq r.t.sz (E.elemSz xt)&&!Nat.beq r.t.sz 0 then (if 0≤n∧n.toNat<m then k (.ep j [] (lo+n.toNat) [] 0) [] [] else none) else none
    | none=>none
   | .ls j=>match lk σ.bx j with
    | some b=>bif Nat.beq (E.tyOf b.ty).sz (E.elemSz xt)&&(!Nat.beq (E.elemSz xt) 0&&b.c.isCh) then (if 0≤n∧n.toNat<b.c.count then k (.lp j n.toNat) [] [] else none) else none
    | none=>none
   | _=>none
  | _,_=>none
 | .index xt x i=>bif !E.isStr xt then none else match opd σ x,opd σ i with
  | some (.val .str s),some (.val (.int _) n)=>if 0≤n then (s[n.toNat]?).bind fun b=>k (.val (.int .u8) (b.toNat:Int)) [] [] else none
  | _,_=>none
 | .load t x=>let want:=E.tyOf t
  bif Nat.beq want.sz 0 then none else match opd σ x with
  | some (.val (.ptr u) x)=>z6w want.strip u x fun v y=>k (.val v y) [] []
  | some (.bp j q o)=>match lk σ.bx j with
   | some b=>match b.c.part q with
    | some s=>bif Nat.beq (b.c.offP q) o&&(s.fit want).okW want then k (s.fit want) [] [] else none
    | none=>none
   | none=>none
  | some (.ep j q n f o)=>match lk σ.rows j with
   | some r=>z3h (.sl r.e r.t) r.xs (q++[.ix n]) fun t x=>match t,x with
    | .rd t,x=>match (SV.val t x).part f with
     | some (.val v y)=>bif Nat.beq ((SV.val t x).offP f) o then z6w want.strip v y fun v z=>k (.val v z) [] [] else none
     | _=>none
    | t,x=>bif Nat.beq (t.offP f) o then (z3h t x (f.map z3i) fun u y=>z6w want u y fun v z=>k (z2g v z j (q++.ix n::(f.map z3i++(if u=want then [] else [.u])))) [] []) else none
   | none=>none
  | some (.lp j n)=>zj E σ depth (.ls j) fun t xs=>match t,xs with
   | .sl _ u,xs=>if u=want∧u.flat=true then (xs[n]?).bind fun y=>k (.val u y) [] [] else none
   | _,_=>none
  | _=>none
 | .slice xt x lo hi mx=>bif mx.isSome then (match opd σ x,hi with
  | some (.ref j []),some hi=>match lk σ.rows j with
   | some r=>bif !(Nat.beq r.t.sz (E.elemSz xt)&&!Nat.beq r.t.sz 0) then none else z31 E σ lo 0 fun l=>z31 E σ (some hi) 0 fun h=>z31 E σ mx 0 fun m=>if 0≤l∧l≤h∧h≤m∧m≤r.xs.length then k .un [] [] else none
   | none=>none
  | _,_=>none) else match opd σ x with
  | some (.val .str s)=>bif !E.isStr xt then none else z31 E σ lo 0 fun l=>z31 E σ hi s.length fun h=>if 0≤l∧l≤h∧h≤s.length then k (.val .str ((s.drop l.toNat).take (h.toNat-l.toNat))) [] [] else none
  | some (.val (.sl e u) s)=>bif !(Nat.beq u.sz (E.elemSz xt)&&!Nat.beq u.sz 0) then none else z31 E σ lo 0 fun l=>z31 E σ hi (List.length s) fun h=>if 0≤l∧l≤h∧h≤List.length s then k (.val (.sl e u) ((s.drop l.toNat).take (h.toNat-l.toNat))) [] [] else none
  | some (.ref j [])=>match lk σ.rows j with
   | some r=>bif !(Nat.beq r.t.sz (E.elemSz xt)&&!Nat.beq r.t.sz 0) then none else z31 E σ lo 0 fun l=>z31 E σ hi r.xs.length fun h=>if 0≤l∧l≤h∧h≤r.xs.length then k (.vw j l.toNat (h.toNat-l.toNat)) [] [] else none
   | none=>none
  | some (.vw j a n)=>match lk σ.rows j with
   | some r=>bif !(Nat.beq r.t.sz (E.elemSz xt)&&!Nat.beq r.t.sz 0) then none else z31 E σ lo 0 fun l=>z31 E σ hi n fun h=>if 0≤l∧l≤h∧(h≤n∨(a=0∧h≤r.xs.length)) then k (.vw j (a+l.toNat) (h.toNat-l.toNat)) [] [] else none
   | none=>none
  | _=>none
 | .box t x=>match opd σ x with
  | some s=>bif s.okW (E.tyOf t) then k (.bp d [] 0) [] [(d,⟨t,s⟩)] else none
  | none=>none
 | .alloc t=>match (E.tyOf t).zero with
  | some z=>let r:=zo (E.tyOf t) z (32*d); k (.bp d [] 0) r.2.1 [(d,⟨t,r.1⟩)]
  | none=>none
 | .build t parts=>match E.ti[t]? with
  | some ⟨.st fs,_,_⟩=>match (E.tyOf t).zero with
   | some _=>bif !zab (parts.toList.map (·.1)) fs.length then none else match z6x E σ parts.toList fs 0 (32*d) with | some (s,r)=>k (.st s) r [] | none=>none
   | none=>none
  | _=>none
 | .buildSlice t n parts=>match E.ti[t]? with
  | some ⟨.sl e,_,_⟩=>match (E.tyOf e).fillable with
   | true=>bif zac parts.toList 0&&(Nat.beq parts.toList.length n&&Nat.ble (n*(E.tyOf e).sz) 16777216) then (match z4t σ (parts.toList.map (·.2)) with
    | some l=>bif (l.map (SV.asFs (E.tyOf e))).all (fun s=>s.okW (E.tyOf e)) then k (.ls d) [] [(d,⟨e,z2w (l.map (SV.asFs (E.tyOf e)))⟩)] else none
    | none=>none) else none
   | false=>none
  | _=>none
 | .makeSlice t len cap=>match E.ti[t]?,opd σ len,opd σ cap with
  | some ⟨.sl e,.sl _ u,_⟩,some (.val (.int .i64) n),some (.val (.int .i64) c)=>match E.ti[e]?,u.zero with
   | some i,some z=>if 0≤n∧n≤c∧c*i.bytes≤LIM then k (.ref (32*d) []) [(32*d,⟨e,u,List.replicate n.toNat z,false⟩)] [] else none
   | _,_=>none
  | _,_,_=>none
 | .call c=>match c.callee with
  | .builtin .len=>match c.args.toList,c.argTypes.toList with
   | [x],[xt]=>match opd σ x with
    | some s=>zj E σ depth s fun t x=>match t,x with
     | .str,x=>bif E.isStr xt then k (.val (.int .i64) (List.length x)) [] [] else none
     | .sl _ _,x=>bif E.isSl xt then k (.val (.int .i64) (List.length x)) [] [] else none
     | _,_=>none
    | none=>none
   | _,_=>none
  | .builtin .max=>match z4t σ c.args.toList with
   | some [.val (.int i) x,.val (.int j) y]=>if i=j then k (.val (.int i) (if x<y then y else x)) [] [] else none
   | _=>none
  | .builtin .min=>match z4t σ c.args.toList with
   | some [.val (.int i) x,.val (.int j) y]=>if i=j then k (.val (.int i) (if y<x then y else x)) [] [] else none
   | _=>none
  | .value f=>match opd σ f,z4t σ c.args.toList with
   | some (.clo g cs),some l=>bif cs.caps.all SV.cap1 then (z4s E σ (l++cs.caps) fun args=>z8w E g args ((l++cs.caps).all SV.isV) d k) else none
   | some (.val (.fn g ct) cx),some l=>bif (z8v ct cx).all SVal.cap1 then (z4s E σ l fun args=>z8w E g (args++z8v ct cx) (l.all SV.isV) d k) else none
   | some (.val (.fs ids) g),some l=>z4s E σ l fun args=>z8x E g args (l.all SV.isV) d k ids
   | _,_=>none
  | _=>none
 | _=>none

def zed (ec:St→SV→(St→(t:Ty)→t.T→Option R)→Option R) (t:Ty):St→SV→(St→List t.T→Option R)→Option R
 | σ,.nl,k=>k σ []
 | σ,.cns a b,k=>ec σ a fun σ u x=>zf u t x fun x=>zed ec t σ b fun σ xs=>k σ (x::xs)
 | _,_,_=>none
def z2q (E:Env):Nat→St→SV→(St→(t:Ty)→t.T→Option R)→Option R
 | 0,_,_,_=>none
 | d+1,σ,s,k=>match s with
  | .val t x=>bif t.flat then k σ t x else none
  | .ref i []=>match lk σ.rows i with
   | some r=>bif r.z then none else k (σ.drop i) (.sl r.e r.t) r.xs
   | none=>none
  | .vw i 0 n=>match lk σ.rows i with
   | some r=>bif r.z then none else k (σ.drop i) (.sl r.e r.t) (r.xs.take n)
   | none=>none
  | .ls i=>match lk σ.bx i with
   | some b=>zed (fun σ s k=>z2q E d σ s k) (E.tyOf b.ty) (σ.dropB i) b.c fun σ xs=>k σ (.sl b.ty (E.tyOf b.ty)) xs
   | none=>none
  | .st s=>z2q E d σ s fun σ t x=>k σ (.st t) x
  | .pr a b=>z2q E d σ a fun σ t x=>z2q E d σ b fun σ u y=>k σ (.pr t u) (x,y)
  | _=>none

def z6g (E:Env):Nat→St→SV→(St→(t:Ty)→t.T→Option R)→Option R
 | 0,_,_,_=>none
 | d+1,σ,s,k=>match s with
  | .val t x=>k σ t x
  | .ref i []=>match lk σ.rows i with
   | some r=>bif r.z then none else k (σ.drop i) (Ty.sl r.e r.t).strip (z5x (.sl r.e r.t) r.xs)
   | none=>none
  | .st s=>z6g E d σ s fun σ t x=>k σ (.st t) x
  | .pr a b=>z6g E d σ a fun σ t x=>z6g E d σ b fun σ u y=>k σ (.pr t u) (x,y)
  | _=>none
def zcf (fc:St→SV→(St→(t:Ty)→t.T→Option R)→Option R) (t:Ty):St→SV→(St→List t.T→Option R)→Option R
 | σ,.nl,k=>k σ []
 | σ,.cns a b,k=>fc σ a fun σ u x=>zf u t x fun x=>zcf fc t σ b fun σ xs=>k σ (x::xs)
 | _,_,_=>none

def up {α:Type}:List (Nat×α)→Nat→α→List (Nat×α)
 | [],_,_=>[]
 | (k,v)::r,n,x=>bif Nat.beq k n then (k,x)::r else (k,v)::up r n x
def ixs:List Step→Nat
 | []=>0
 | .ix _::p=>ixs p+1
 | _::p=>ixs p
def SV.killIn (i n:Nat):SV→SV
 | .ref j p=>bif Nat.beq i j&&Nat.blt n (ixs p) then .un else .ref j p
 | .ep j p m f o=>bif Nat.beq i j&&Nat.blt n (ixs p) then .un else .ep j p m f o
 | .st s=>.st (s.killIn i n)
 | .pr a b=>.pr (a.killIn i n) (b.killIn i n)
 | .clo g c=>.clo g (c.killIn i n)
 | .tup s=>.tup (s.killIn i n)
 | .cns a b=>.cns (a.killIn i n) (b.killIn i n)
 | v=>v
def St.setRow (σ:St) (i:Nat) (r:Row):St:=⟨σ.sl,up σ.rows i r,σ.bx⟩
def St.setBox (σ:St) (i:Nat) (b:Bx):St:=⟨σ.sl,σ.rows,up σ.bx i b⟩
def St.killIn (σ:St) (i n:Nat):St:=⟨zw (SV.killIn i n) σ.sl,σ.rows,zw (fun b=>⟨b.ty,b.c.killIn i n⟩) σ.bx⟩

def zad (σ:St) (i:Nat) (p:List Step) (f:List Bool) (o:Nat) (u:Ty) (y:u.T) (k:St→Option R):Option R :=
 match lk σ.rows i with
 | some r=>z3h (.sl r.e r.t) r.xs p fun t x=>bif Nat.beq (t.offP f) o then (z5i t x (f.map z3i) u y fun x'=>z5i (.sl r.e r.t) r.xs p t x' fun z=>k (σ.setRow i ⟨r.e,r.t,z,r.z⟩)) else none
 | none=>none

def Ty.at:Ty→List Step→Option Ty
 | .sl e t,p=>match p with
  | []=>some (.sl e t)
  | .ix _::p=>t.at p
  | _=>none
 | .st t,p=>match p with
  | []=>some (.st t)
  | .u::p=>t.at p
  | s::p=>t.at (s::p)
 | .pr a b,p=>match p with
  | []=>some (.pr a b)
  | .f false::p=>a.at p
  | .f true::p=>b.at p
  | _=>none
 | t,p=>match p with
  | []=>some t
  | _=>none
def zee (σ:St) (j:Nat) (q:List Step) (n:Nat):Bool:=match lk σ.rows j with
 | some r=>match (Ty.sl r.e r.t).at (q++[.ix n]) with | some (.rd _)=>true | _=>false
 | none=>false
def zcg (E:Env) (σ:St) (t:TypeId) (a v:Operand) (k:St→Option R):Option R :=
 match opd σ a with
 | some (.bp j q c)=>match v with
  | .const (.slice none 0 0)=>match E.ti[t]? with
   | some ⟨.sl e,.sl _ u,_⟩=>bif Nat.blt (3000000+32*j) PIN then boxC (σ.addRow (3000000+32*j) ⟨e,u,[],false⟩) j q c (.ref (3000000+32*j) []) k else none
   | _=>none
  | v=>match opd σ v with
   | some s=>bif s.okW (E.tyOf t) then boxC σ j q c s k else none
   | none=>none
 | some (.ep j q n f c)=>match opd σ v with
  | some s=>bif (E.tyOf t).flat then zj E σ depth s fun u y=>bif u.flat&&Nat.beq u.sz (E.tyOf t).sz then zad σ j (q++[.ix n]) f c u y k else none
   else bif zee σ j q n then (bif E.rdm&&!Nat.beq (E.tyOf t).sz 0 then z6g E depth σ s fun σ u y=>bif Nat.beq u.sz (E.tyOf t).sz then zad (σ.killIn j (ixs q)) j (q++[.ix n]) f c (.rd u) y k else none else none)
   else z2q E depth σ s fun σ u y=>bif Nat.beq u.sz (E.tyOf t).sz&&!Nat.beq u.sz 0 then zad (σ.killIn j (ixs q)) j (q++[.ix n]) f c u y k else none
  | none=>none
 | _=>none
where
 /-- Slot content s into part q of variable j. -/
 boxC (σ:St) (j:Nat) (q:List Bool) (c:Nat) (s:SV) (k:St→Option R):Option R:=match lk σ.bx j with
  | some b=>match b.c.part q with
   | some old=>match b.c.setPart q (old.like s) with
    | some c'=>bif Nat.beq (b.c.offP q) c&&Nat.beq old.w s.w then k (σ.setBox j ⟨b.ty,c'⟩) else none
    | none=>none
   | none=>none
  | none=>none
def zef (E:Env) (σ:St) (tx e:TypeId) (u:Ty) (b:Operand) (c:St→List u.T→Option R):Option R:=match opd σ b with
 | some s=>bif !(E.isSl tx&&E.rdm) then none else match s with
  | .val (.sl _ w) y=>zf (.sl e w) (.sl e u) y fun y=>c σ y
  | .ls i=>match lk σ.bx i with
   | some b=>zcf (fun σ s k=>z6g E depth σ s k) u (σ.dropB i) b.c fun σ xs=>c σ xs
   | none=>none
  | .ref i []=>match lk σ.rows i with
   | some ⟨_,.rd w,xs,_⟩=>zf (.sl e w) (.sl e u) xs fun y=>c σ y
   | some ⟨_,t,xs,z⟩=>bif z then none else zf (.sl e t.strip) (.sl e u) (xs.map (z5x t)) fun y=>c (σ.drop i) y
   | none=>none
  | .vw i lo n=>match lk σ.rows i with
   | some ⟨_,.rd w,xs,_⟩=>zf (.sl e w) (.sl e u) ((xs.drop lo).take n) fun y=>c σ y
   | _=>none
  | _=>none
 | none=>none
def z6y (E:Env) (σ:St) (tx e:TypeId) (u:Ty) (b:Operand) (c:St→List u.T→Option R):Option R:=match opd σ b with
 | some s=>bif u.flat then zj E σ depth s fun v y=>match v,y with
   | .str,y=>bif E.isStr tx then zf (.sl e (.int .u8)) (.sl e u) (y.map fun b=>(b.toNat:Int)) fun y=>c σ y else none
   | .sl e' w,y=>bif E.isSl tx then zf (.sl e w) (.sl e u) y fun y=>c σ y else none
   | _,_=>none
  else z2q E depth σ s fun σ v y=>bif E.isSl tx then zf v (.sl e u) y fun y=>c σ y else none
 | none=>none
def zae (σ:St) (d:Nat) (dst:Option Tmp) (e:TypeId) (u:Ty) (bytes:Nat) (xs ys:List u.T) (k:St→Option R):Option R :=
 if (xs.length+ys.length)*bytes≤LIM then (bif Nat.blt (32*d) PIN then k ((σ.addRow (32*d) ⟨e,u,xs++ys,false⟩).put dst (.ref (32*d) [])) else none) else none
def zhx (s:SV) (t:Option SV):Option (Nat×Nat):=match s,t with
 | .vw j 0 n,some (.vw i _ _)=>bif Nat.beq i j then some (j,n) else none
 | _,_=>none
def zhy (σ:St) (dst:Option Tmp) (e:TypeId) (u:Ty) (j n:Nat) (ys:List u.T) (k:St→Option R):Option R:=match lk σ.rows j with
 | some r=>bif r.t.flat&&!r.z then zf (.sl e u) (.sl r.e r.t) ys fun ys=>if n+List.length ys≤r.xs.length then k ((σ.setRow j ⟨r.e,r.t,z22 r.xs n ys,r.z⟩).put dst (.vw j 0 (n+List.length ys))) else none else none
 | none=>none
def zhz (E:Env) (σ:St) (d:Nat) (dst:Option Tmp) (t tx:TypeId) (a b:Operand) (k:St→Option R):Option R:=match E.ti[t]? with
 | some ⟨.sl e,.sl _ (.rd u),_⟩=>match E.ti[e]?,(E.tyOf e).zero with
  | some i,some _=>match a with
   | .const (.slice none 0 0)=>zef E σ tx e u b fun σ ys=>zae σ d dst e (.rd u) i.bytes [] ys k
   | a=>match opd σ a with
    | some s=>zef E σ tx e u b fun σ ys=>z2q E depth σ s fun σ v x=>zf v (.sl e (.rd u)) x fun xs=>zae σ d dst e (.rd u) i.bytes xs ys k
    | none=>none
  | _,_=>none
 | some ⟨.sl e,.sl _ u,_⟩=>match E.ti[e]?,u.zero with
  | some i,some _=>match a with
   | .const (.slice none 0 0)=>z6y E σ tx e u b fun σ ys=>zae σ d dst e u i.bytes [] ys k
   | a=>match opd σ a with
    | some s=>match zhx s (opd σ b) with
     | some (j,n)=>z6y E σ tx e u b fun σ ys=>zhy σ dst e u j n ys k
     | none=>z6y E σ tx e u b fun σ ys=>z2q E depth σ s fun σ v x=>zf v (.sl e u) x fun xs=>zae σ d dst e u i.bytes xs ys k
    | none=>none
  | _,_=>none
 | _=>none
def zi0 (E:Env) (σ:St) (xt:TypeId) (x:Operand) (k:St→Option R):Option R:=match E.ti[xt]?,opd σ x with
 | some ⟨.sl e,.sl _ _,_⟩,some (.vw j lo n)=>match lk σ.rows j with
  | some r=>match r.t.zero with
   | some z=>bif (Nat.beq r.e e&&decide (r.t=E.tyOf e))&&r.t.flat then k (σ.setRow j ⟨r.e,r.t,z22 r.xs lo (List.replicate n z),r.z⟩) else none
   | none=>none
  | none=>none
 | _,_=>none
def z8y (E:Env) (σ:St) (o:Oper) (k:St→Option R):Option R :=
 z12 E (σ.clean (zp o)) o fun s nr nb=>bif (σ.clean (zp o)).fresh (zp o) nr nb then k (((σ.clean (zp o)).add nr nb).put o.dst s) else none
noncomputable def zch {R:Type} (a b:Option R):Option R:=open Classical in if a=b then a else none
noncomputable def zci (E:Env) (σ:St) (xt:TypeId) (x:Operand) (k:Bool→Option R):Option R:=bif !E.isSl xt then none else match opd σ x with
 | some s=>zj E σ depth s fun t xs=>match t,xs with
  | .sl _ _,xs=>if List.isEmpty xs=true then zch (k true) (k false) else k false
  | _,_=>none
 | none=>none
def zi1 (E:Env) (σ:St) (d:Nat) (dst:Option Tmp) (ty:TypeId) (k:St→Option R):Option R:=match dst with
 | none=>k σ
 | some s=>match lk σ.sl s with
  | some (.ls j)=>match lk σ.bx j with
   | some b=>bif (E.tyOf b.ty).flat||Nat.beq b.c.count 0 then z2q E depth σ (.ls j) fun σ t x=>match t,x with
     | .sl e u,x=>bif Nat.blt (32*d) PIN then (match E.ti[ty]?,x with
      | some ⟨_,.sl _ (.rd u'),_⟩,[]=>bif Nat.beq u'.sz u.sz then k ((σ.addRow (32*d) ⟨e,.rd u',[],false⟩).put (some s) (.ref (32*d) [])) else none
      | _,x=>k ((σ.addRow (32*d) ⟨e,u,x,false⟩).put (some s) (.ref (32*d) []))) else none
     | _,_=>none
    else k σ
   | none=>none
  | _=>none
def SV.ren2 (f fb:Nat→Nat):SV→SV
 | .ref j p=>.ref (f j) p
 | .vw j a b=>.vw (f j) a b
 | .ep j p n q o=>.ep (f j) p n q o
 | .ls j=>.ls (fb j)
 | .bp j p o=>.bp (fb j) p o
 | .lp j n=>.lp (fb j) n
 | .st s=>.st (s.ren2 f fb)
 | .pr a b=>.pr (a.ren2 f fb) (b.ren2 f fb)
 | .clo g c=>.clo g (c.ren2 f fb)
 | .tup s=>.tup (s.ren2 f fb)
 | .cns a b=>.cns (a.ren2 f fb) (b.ren2 f fb)
 | v=>v
def SV.cutR (gr dp gb db:Nat→Bool):SV→SV
 | .ref j p=>bif gr j||(dp j&&Nat.blt 0 (ixs p)) then .un else .ref j p
 | .vw j a b=>bif gr j then .un else .vw j a b
 | .ep j p n f o=>bif gr j||(dp j&&Nat.blt 0 (ixs p)) then .un else .ep j p n f o
 | .bp j p o=>bif gb j then .un else .bp j p o
 | .ls j=>bif db j then .un else .ls j
 | .lp j n=>bif db j then .un else .lp j n
 | .st s=>.st (s.cutR gr dp gb db)
 | .pr a b=>.pr (a.cutR gr dp gb db) (b.cutR gr dp gb db)
 | .clo g c=>.clo g (c.cutR gr dp gb db)
 | .tup s=>.tup (s.cutR gr dp gb db)
 | .cns a b=>.cns (a.cutR gr dp gb db) (b.cutR gr dp gb db)
 | v=>v
def SV.roots:SV→List Nat
 | .ref i _=>[i]
 | .vw i _ _=>[i]
 | .ep i _ _ _ _=>[i]
 | .st s=>s.roots
 | .pr a b=>a.roots++b.roots
 | .clo _ c=>c.roots
 | .tup s=>s.roots
 | .cns a b=>a.roots++b.roots
 | _=>[]
def SV.boxes:SV→List Nat
 | .bp i _ _=>[i]
 | .ls i=>[i]
 | .lp i _=>[i]
 | .st s=>s.boxes
 | .pr a b=>a.boxes++b.boxes
 | .clo _ c=>c.boxes
 | .tup s=>s.boxes
 | .cns a b=>a.boxes++b.boxes
 | _=>[]
def z4i:List Nat→List Nat→List Nat
 | [],acc=>acc
 | i::l,acc=>bif acc.any (Nat.beq i) then z4i l acc else z4i l (acc++[i])
def zaf (i:Nat):List Nat→Nat→Nat
 | [],n=>n
 | j::l,n=>bif Nat.beq i j then n else zaf i l (n+1)
def zi2 (σ:St) (i:Nat):List Nat:=match lk σ.bx i with | some b=>b.c.boxes | none=>[]
def zeg (σ:St) (i:Nat):List Nat:=match lk σ.bx i with | some b=>b.c.roots | none=>[]
def zeh (σ:St):Nat→List Nat→List Nat
 | 0,l=>l
 | n+1,l=>zeh σ n (z4i (l++l.flatMap (zi2 σ)) [])
def z1q:List Nat→Nat→Nat
 | [],_=>0
 | i::_,0=>i
 | _::l,n+1=>z1q l n
def z1y (ids:List Nat) (i:Nat):Nat:=PIN+zaf i ids 0
def NB:Nat:=64000000
def z41 (ids:List Nat) (base j:Nat):Nat:=bif Nat.blt j PIN then base+(j-NB) else z1q ids (j-PIN)
def z58 (bids:List Nat) (j:Nat):Nat:=z1q bids (j-PIN)
def z6z:List SV→Nat→List (Nat×SV)
 | [],_=>[]
 | s::l,i=>(i,s)::z6z l (i+1)
def z5l (rows:List (Nat×Row)):List Nat→Nat→List (Nat×Row)
 | [],_=>[]
 | i::l,n=>match lk rows i with | some r=>(n,r)::z5l rows l (n+1) | none=>z5l rows l (n+1)
def z5m (bx:List (Nat×Bx)) (f fb:Nat→Nat):List Nat→Nat→List (Nat×Bx)
 | [],_=>[]
 | i::l,n=>match lk bx i with | some b=>(n,⟨b.ty,b.c.ren2 f fb⟩)::z5m bx f fb l (n+1) | none=>z5m bx f fb l (n+1)
def has (l:List Nat) (i:Nat):Bool:=l.any (Nat.beq i)
def z4j {α:Type} (l:List Nat):List (Nat×α)→List (Nat×α)
 | []=>[]
 | (i,x)::r=>bif has l i then z4j l r else (i,x)::z4j l r
def z7w (f:Nat→Nat):List (Nat×Row)→List (Nat×Row)
 | []=>[]
 | (j,r)::l=>(f j,r)::z7w f l
def z7x (f fb:Nat→Nat):List (Nat×Bx)→List (Nat×Bx)
 | []=>[]
 | (j,b)::l=>(fb j,⟨b.ty,b.c.ren2 f fb⟩)::z7x f fb l
def z23 (ids back:List Nat) (i:Nat):Bool:=has ids i&&!has back i
def St.okBack (σ τ:St) (ids bids:List Nat) (d:Nat):Bool :=
 z4h (τ.rows.map (·.1))&&(z4h (τ.bx.map (·.1)) &&
 (τ.rows.all (fun x=>bif Nat.blt x.1 PIN then Nat.ble NB x.1&&(Nat.blt (x.1-NB) 32&&(Nat.blt (32*d+32) PIN&&(lk σ.rows (32*d+(x.1-NB))).isNone))
  else Nat.blt (x.1-PIN) ids.length&&(match lk σ.rows (z1q ids (x.1-PIN)) with | some r=>Nat.beq r.e x.2.e&&decide (r.t=x.2.t) | none=>false)) &&
 τ.bx.all (fun x=>Nat.ble PIN x.1&&(Nat.blt (x.1-PIN) bids.length&&!x.2.c.isCh))))
def St.okIn (σ:St) (l:List SV) (ids bids:List Nat):Bool :=
 z4h ids&&(z4h bids&&(l.all (fun s=>s.roots.all (has ids)&&s.boxes.all (has bids)) &&
 (bids.all (fun b=>(match lk σ.bx b with | some _=>true | none=>false)&&((zi2 σ b).all (has bids)&&(zeg σ b).all (has ids))) &&
 ids.all (fun i=>match lk σ.rows i with | some _=>true | none=>false))))
def St.merge (σ τ:St) (ids bids:List Nat) (d:Nat):St :=
 let f:=z41 ids (32*d)
 let fb:=z58 bids
 let rs:=z7w f τ.rows
 let bs:=z7x f fb τ.bx
 ⟨zw (SV.cutR (z23 ids (rs.map (·.1))) (has ids) (z23 bids (bs.map (·.1))) (has bids)) σ.sl,rs++z4j ids σ.rows,bs++zw (fun b=>⟨b.ty,b.c.cutR (z23 ids (rs.map (·.1))) (has ids) (z23 bids (bs.map (·.1))) (has bids)⟩) (z4j bids σ.bx)⟩
def z7y:(p:List PK)→PT p→List Step
 | [],_=>[]
 | .ix::p,x=>.ix x.1::z7y p x.2
 | .f b::p,x=>.f b::z7y p x
 | .u::p,x=>.u::z7y p x
def getP:(p:List PK)→List Step→(PT p→Option R)→Option R
 | [],[],k=>k ()
 | .ix::p,.ix n::q,k=>getP p q fun x=>k (n,x)
 | .f b::p,.f c::q,k=>bif b==c then getP p q k else none
 | .u::p,.u::q,k=>getP p q k
 | _,_,_=>none
def SK.fill:(s:SK)→s.T→SV
 | .val t,x=>.val t x
 | .ref i p,x=>.ref i (z7y p x)
 | .vw i,x=>.vw i x.1 x.2
 | .ls i,_=>.ls i
 | .st s,x=>.st (s.fill x)
 | .pr a b,x=>.pr (a.fill x.1) (b.fill x.2)
 | .bp i p o,_=>.bp i p o
 | .clo g s,x=>.clo g (s.fill x)
 | .tup s,x=>.tup (s.fill x)
 | .cns a b,x=>.cns (a.fill x.1) (b.fill x.2)
 | .nl,_=>.nl
 | .no,_=>.no
 | .er,b=>.er b
 | .un,_=>.un
def zcj:List Bool→List Bool→Bool
 | [],[]=>true
 | a::l,b::m=>(a==b)&&zcj l m
 | _,_=>false
def SK.get:(s:SK)→SV→(s.T→Option R)→Option R
 | .val t,v,k=>match v with | .val u x=>zf u t x k | _=>none
 | .ref i p,v,k=>match v with | .ref j q=>bif Nat.beq i j then getP p q k else none | _=>none
 | .vw i,v,k=>match v with | .vw j a b=>bif Nat.beq i j then k (a,b) else none | _=>none
 | .ls i,v,k=>match v with | .ls j=>bif Nat.beq i j then k () else none | _=>none
 | .st s,v,k=>match v with | .st w=>s.get w k | _=>none
 | .pr a b,v,k=>match v with | .pr x y=>a.get x fun x=>b.get y fun y=>k (x,y) | _=>none
 | .bp i p o,v,k=>match v with | .bp j q c=>bif Nat.beq i j&&(zcj p q&&Nat.beq o c) then k () else none | _=>none
 | .clo g s,v,k=>match v with | .clo g' w=>bif Nat.beq g g' then s.get w k else none | _=>none
 | .tup s,v,k=>match v with | .tup w=>s.get w k | _=>none
 | .cns a b,v,k=>match v with | .cns x y=>a.get x fun x=>b.get y fun y=>k (x,y) | _=>none
 | .nl,v,k=>match v with | .nl=>k () | _=>none
 | .no,v,k=>match v with | .no=>k () | _=>none
 | .er,v,k=>match v with | .er b=>k b | _=>none
 | .un,v,k=>match v with | .un=>k () | _=>none
def zck:(l:List (Nat×SK))→slT l→List (Nat×SV)
 | [],_=>[]
 | (i,s)::l,x=>(i,s.fill x.1)::zck l x.2
def zag:(l:List (Nat×TypeId×Ty×Bool))→zaa l→List (Nat×Row)
 | [],_=>[]
 | (i,e,t,z)::l,x=>(i,⟨e,t,x.1,z⟩)::zag l x.2
def z8z:(l:List (Nat×TypeId×SK))→bxT l→List (Nat×Bx)
 | [],_=>[]
 | (i,t,s)::l,x=>(i,⟨t,s.fill x.1⟩)::z8z l x.2
def Head.fill (h:Head) (x:h.T):St:=⟨zck h.sl x.1,zag h.rows x.2.1,z8z h.bx x.2.2⟩
def zah (σ:List (Nat×SV)):(l:List (Nat×SK))→(slT l→Option R)→Option R
 | [],k=>k ()
 | (i,s)::l,k=>match lk σ i with | some v=>s.get v fun x=>zah σ l fun y=>k (x,y) | none=>none
def zai (σ:List (Nat×Row)):(l:List (Nat×TypeId×Ty×Bool))→(zaa l→Option R)→Option R
 | [],k=>k ()
 | (i,e,t,z)::l,k=>match lk σ i with
  | some r=>bif Nat.beq r.e e&&(r.z==z) then zf (.sl r.e r.t) (.sl r.e t) r.xs fun xs=>zai σ l fun y=>k (xs,y) else none
  | none=>none
def zaj (σ:List (Nat×Bx)):(l:List (Nat×TypeId×SK))→(bxT l→Option R)→Option R
 | [],k=>k ()
 | (i,t,s)::l,k=>match lk σ i with | some b=>bif Nat.beq b.ty t then s.get b.c fun x=>zaj σ l fun y=>k (x,y) else none | none=>none
def SK.roots:SK→List Nat
 | .ref i _=>[i]
 | .vw i=>[i]
 | .st s=>s.roots
 | .pr a b=>a.roots++b.roots
 | .clo _ s=>s.roots
 | .tup s=>s.roots
 | .cns a b=>a.roots++b.roots
 | _=>[]
def SK.boxes:SK→List Nat
 | .ls i=>[i]
 | .bp i _ _=>[i]
 | .st s=>s.boxes
 | .pr a b=>a.boxes++b.boxes
 | .clo _ s=>s.boxes
 | .tup s=>s.boxes
 | .cns a b=>a.boxes++b.boxes
 | _=>[]
def SK.okIn (h:Head) (s:SK):Bool:=s.roots.all (fun i=>h.rows.any fun r=>Nat.beq r.1 i)&&s.boxes.all (fun i=>h.bx.any fun b=>Nat.beq b.1 i)
def Head.ok (h:Head):Bool:=h.sl.all (fun x=>x.2.okIn h)&&h.bx.all (fun x=>x.2.2.okIn h)
def Head.raw (h:Head) (σ:St) (k:h.T→Option R):Option R :=
 zah σ.sl h.sl fun x=>zai σ.rows h.rows fun y=>zaj σ.bx h.bx fun z=>k (x,y,z)
def zi3:(t:Ty)→t.T→SV
 | .un,_=>.no
 | .pr a b,x=>.pr (.val a x.1) (zi3 b x.2)
 | t,x=>.val t x
def SV.asClo:SV→SV
 | .val (.fn g ct) x=>.clo g (zi3 ct x)
 | s=>s
def zi4 (σ:St) (f:Operand):Option SV:=match opd σ f with | some s=>some s.asClo | none=>none
def zi5 (E:Env) (σ:St) (d:Nat) (args:List Operand) (ts:List TypeId):Option (St×List SV):=match args,ts with
 | .const (.slice none 0 0)::l,t::_=>match E.ti[t]? with
  | some ⟨.sl e,.sl _ u,_⟩=>bif Nat.blt (5000000+32*d) PIN then (match z4t (σ.addRow (5000000+32*d) ⟨e,u,[],false⟩) l with | some ss=>some (σ.addRow (5000000+32*d) ⟨e,u,[],false⟩,.ref (5000000+32*d) []::ss) | none=>none) else none
  | _=>none
 | l,_=>match z4t σ l with | some ss=>some (σ,ss) | none=>none
def zi6 (l:List SV) (c:OC):Option (Nat×List Step×List SV):=match l,c.hi.sl with
 | .ref j (s::q)::rest,(0,.ref _ [])::_=>bif rest.all SV.isV then some (j,s::q,rest) else none
 | _,_=>none
def zi7 (σ:St) (dst:Option Tmp) (j:Nat) (r:Row) (q:List Step) (e:TypeId) (u:Ty) (τ:St) (k:St→Option R):Option R:=match lk τ.sl 0,lk τ.rows PIN with
 | some (.val t v),some r'=>bif r'.z then none else zf (.sl r'.e r'.t) (.sl e u) r'.xs fun z=>z5i (.sl r.e r.t) r.xs q (.sl e u) z fun xs=>k (((σ.killIn j (ixs q-1)).setRow j ⟨r.e,r.t,xs,r.z⟩).put dst (.val t v))
 | _,_=>none
def zlk (σ:St) (dst:Option Tmp) (c:OC) (j:Nat) (q:List Step) (rest:List SV) (k:St→Option R):Option R:=match lk σ.rows j with
 | some r=>bif r.z then none else z3h (.sl r.e r.t) r.xs q fun t x=>match t,x with
  | .sl e u,x=>bif Nat.beq (rest.length+1) c.hi.sl.length&&!c.ch then c.hi.raw ⟨(0,.ref PIN [])::z6z rest 1,[(PIN,⟨e,u,x,false⟩)],[]⟩ fun a=>(c.F a).bind fun y=>zi7 σ dst j r q e u (c.ho.fill y) k else none
  | _,_=>none
 | none=>none
def zcl (E:Env) (σ:St) (d:Nat) (dst:Option Tmp) (g:FuncId) (c:OC) (f:Operand) (args:List Operand) (ts:List TypeId) (k:St→Option R):Option R :=
 match zi5 E (σ.clean d) d args ts with
 | some (σ',l)=>match zi4 σ' f with
  | some (.clo g' cs)=>bif !(Nat.beq g g'&&cs.caps.all SV.cap1) then none else (match zi6 (l++cs.caps) c with
   | some (j,q,rest)=>zlk σ' dst c j q rest k
   | none=>open1 σ' d dst c (l++cs.caps) k)
  | _=>none
 | none=>none
where
 open1 (σ:St) (d:Nat) (dst:Option Tmp) (c:OC) (l:List SV) (k:St→Option R):Option R :=
  open2 σ d dst c l (zeh σ 8 (z4i (l.flatMap SV.boxes) [])) (z4i (l.flatMap SV.roots++(zeh σ 8 (z4i (l.flatMap SV.boxes) [])).flatMap (zeg σ)) []) k
 open2 (σ:St) (d:Nat) (dst:Option Tmp) (c:OC) (l:List SV) (bids ids:List Nat) (k:St→Option R):Option R :=
  bif (σ.okIn l ids bids&&Nat.beq l.length c.hi.sl.length)&&(!c.ch||E.rdm) then c.hi.raw ⟨z6z (l.map (SV.ren2 (z1y ids) (z1y bids))) 0,z5l σ.rows ids PIN,z5m σ.bx (z1y ids) (z1y bids) bids PIN⟩ fun x=>(c.F x).bind fun y =>
   bif σ.okBack (c.ho.fill y) ids bids d then (match lk (c.ho.fill y).sl 0 with
    | some v=>k ((σ.merge (c.ho.fill y) ids bids d).put dst (v.ren2 (z41 ids (32*d)) (z58 bids)))
    | none=>none) else none else none
def SV.lsRef (j i:Nat):SV→SV
 | .ls k=>bif Nat.beq j k then .ref i [] else .ls k
 | .lp k n=>bif Nat.beq j k then .un else .lp k n
 | .bp k p o=>bif Nat.beq j k then .un else .bp k p o
 | .st s=>.st (s.lsRef j i)
 | .pr a b=>.pr (a.lsRef j i) (b.lsRef j i)
 | .clo g c=>.clo g (c.lsRef j i)
 | .tup s=>.tup (s.lsRef j i)
 | .cns a b=>.cns (a.lsRef j i) (b.lsRef j i)
 | v=>v
def St.turn (σ:St) (j i:Nat) (r:Row):St:=⟨zw (SV.lsRef j i) σ.sl,(i,r)::σ.rows,zw (fun b=>⟨b.ty,b.c.lsRef j i⟩) (rm σ.bx j)⟩
def z4u (j:Nat):Nat:=7000000+32*j
def zi8 (σ:St) (i:Nat):Bool:=match lk σ.rows i with | none=>true | some _=>false
def zi9 (E:Env) (σ:St) (j:Nat) (k:St→Option R):Option R:=match lk σ.bx j with
 | some b=>bif E.rdm&&(b.c.isCh&&Nat.blt (z4u j) PIN) then zcf (fun σ s k=>z6g E depth σ s k) (E.tyOf b.ty).strip σ b.c fun σ xs=>match lk σ.bx j with
   | some b'=>bif Nat.beq b'.ty b.ty&&(b'.c.isCh&&(Nat.beq b'.c.count b.c.count&&zi8 σ (z4u j))) then k (σ.turn j (z4u j) ⟨b.ty,.rd (E.tyOf b.ty).strip,xs,false⟩) else none
   | none=>none
  else k σ
 | none=>k σ
def zia (E:Env) (σ:St) (j:Nat) (k:St→Option R):Option R:=match lk σ.rows j with
 | some ⟨e,.sl e2 u,xs,false⟩=>bif u.flat&&E.rdm then k ((σ.killIn j 0).setRow j ⟨e,.rd (.sl e2 u),xs,false⟩) else none
 | _=>k σ
def zll (c:OC) (p:Nat):Bool:=match lk c.hi.rows p with | some (_,.rd _,_)=>true | _=>false
def fzC (E:Env) (c:OC):List (Nat×SK)→List Operand→St→(St→Option R)→Option R
 | [],_,σ,k=>k σ
 | h::hs,xs,σ,k=>match xs with
  | []=>k σ
  | x::xs=>match h with
   | (_,.ref p [])=>bif zll c p then (match opd σ x with
    | some (.ref j [])=>zia E σ j fun σ=>fzC E c hs xs σ k
    | some (.ls j)=>zi9 E σ j fun σ=>fzC E c hs xs σ k
    | _=>fzC E c hs xs σ k) else fzC E c hs xs σ k
   | _=>fzC E c hs xs σ k
def Env.ifc (E:Env) (t:TypeId):Bool:=match E.ti[t]? with | some ⟨.oth,_,n⟩=>!Nat.beq n 0 | _=>false
def erC (E:Env) (σ:St) (xt:TypeId) (x:Operand) (k:Bool→Option R):Option R:=bif E.ifc xt then (match opd σ x with | some (.er b)=>k b | _=>none) else none
def z71 (E:Env) (σ:St) (o:Oper) (k:St→Option R):Option R :=
 match o.op with
 | .store t a v=>zcg E σ t a v fun σ=>k (σ.put o.dst .un)
 | .call ⟨.builtin .append,args,ts⟩=>match args.toList,ts.toList with
  | [a,b],[t,tx]=>zhz E σ (zp o) o.dst t tx a b k
  | _,_=>none
 | .call ⟨.builtin .clear,args,ts⟩=>match args.toList,ts.toList with
  | [x],[t]=>zi0 E σ t x fun σ=>k (σ.put o.dst .un)
  | _,_=>none
 | .buildSlice t _ _=>z8y E σ o fun σ=>zi1 E σ (zp o) o.dst t k
 | .binOp .eql xt x (.const (.slice none 0 0)) _=>zci E σ xt x fun b=>k (σ.put o.dst (.val .bool b))
 | .binOp .neq xt x (.const (.slice none 0 0)) _=>zci E σ xt x fun b=>k (σ.put o.dst (.val .bool (!b)))
 | .binOp .eql xt x (.const .nilIface) _=>erC E σ xt x fun b=>k (σ.put o.dst (.val .bool (!b)))
 | .binOp .neq xt x (.const .nilIface) _=>erC E σ xt x fun b=>k (σ.put o.dst (.val .bool b))
 | .call ⟨.value f,args,ts⟩=>match E.opn (zp o) with
  | none=>z8y E σ o k
  | some (g,c)=>fzC E c c.hi.sl args.toList σ fun σ=>zcl E σ (zp o) o.dst g c f args.toList ts.toList k
 | _=>z8y E σ o k

def zei (ops:List Oper) (i:Nat):Bool:=ops.any fun o=>match o.guard with | some (g,_)=>Nat.beq g i | none=>false
def z7z (ops:List Oper) (g:Nat):Option Tmp:=match ops[g]? with | some o=>o.dst | none=>none

def zej (all:List Oper) (i:Nat) (o:Oper) (σ:St) (k:St→Option R):Option R :=
 bif zei all i then (match o.dst with
  | some d=>match lk σ.sl d with
   | some (.val .bool b)=>if b=true then k (σ.put (some d) (.val .bool true)) else k (σ.put (some d) (.val .bool false))
   | _=>none
  | none=>none) else k σ

def z3r (all:List Oper) (o:Oper) (σ:St) (yes no:Option R):Option R :=
 match o.guard with
 | none=>yes
 | some (g,want)=>match z7z all g with
  | some d=>match lk σ.sl d with
   | some (.val .bool b)=>if b=want then yes else no
   | some (.tup .nl)=>no
   | _=>none
  | none=>none

def z5n (E:Env) (all:List Oper):Nat→List Oper→St→(St→Option R)→Option R
 | _,[],σ,k=>k σ
 | i,o::l,σ,k=>z3r all o σ (z71 E σ o fun σ=>zej all i o σ fun σ=>z5n E all (i+1) l σ k) (z5n E all (i+1) l (σ.put o.dst (.tup .nl)) k)

def z80 (zm:List Nat) (o:Oper):Nat:=o.after.toList.foldl (fun s e=>bif Region.binds .any e then Nat.lor s (Nat.lor (2 ^ e.on) (zm.getD e.on 0)) else s) 0
def zk:List Oper→List Nat→List Nat
 | [],acc=>acc
 | o::l,acc=>zk l (acc++[z80 acc o])
def z42:Nat→List Oper→Bool
 | _,[]=>true
 | i,o::l=>o.after.toList.all (fun e=>!Region.binds .any e||Nat.blt e.on i)&&z42 (i+1) l
def z32 (all:List Oper) (p i:Nat):List Nat:=(List.range i).filterMap fun j=>bif Nat.testBit p j then none else z7z all j
def St.hide (σ:St) (ds:List Nat):St:=⟨σ.sl.filter (fun x=>!(ds.any (Nat.beq x.1))),σ.rows.filter (fun x=>!(ds.any (Nat.beq (x.1 / 32)))),σ.bx.filter (fun x=>!(ds.any (Nat.beq x.1)))⟩
def St.hideS (σ:St) (ds:List Nat):St:=⟨σ.sl.filter (fun x=>!(ds.any (Nat.beq x.1))),σ.rows,σ.bx⟩
def z90 (n p:Nat):Bool:=Nat.beq (p % 2 ^ n) (2 ^ n-1)
def z3b:List Nat→Nat→Nat
 | [],_=>0
 | p::ps,i=>match z3b ps (i+1) with
  | 0=>bif z90 i p then 0 else 1
  | n+1=>n+2
def zib (all:List Oper) (i:Nat) (s:SV) (k:SV→Option R):Option R :=
 bif zei all i then (match s with
  | .val .bool b=>if b=true then k (.val .bool true) else k (.val .bool false)
  | _=>none) else k s
def zek (t:Ty):SV→Option (List t.T)
 | .nl=>some []
 | .cns a b=>match a,zek t b with
  | .val u x,some xs=>if h:u=t then some ((h▸x)::xs) else none
  | _,_=>none
 | _=>none
def St.prom (E:Env) (σ:St) (j:Nat):St:=match lk σ.bx j with
 | some b=>bif b.c.isCh&&(Nat.blt (z4u j) PIN&&(match lk σ.rows (z4u j) with | none=>true | some _=>false)) then
   (bif (E.tyOf b.ty).flat then (match zek (E.tyOf b.ty) b.c with | some xs=>σ.turn j (z4u j) ⟨b.ty,E.tyOf b.ty,xs,false⟩ | none=>σ)
   else bif Nat.beq b.c.count 0 then σ.turn j (z4u j) ⟨b.ty,bif E.rdm then .rd (E.tyOf b.ty).strip else E.tyOf b.ty,[],false⟩ else σ) else σ
 | none=>σ
def St.promAll (E:Env) (σ:St):St:=(σ.bx.filterMap (fun x=>bif x.2.c.isCh then some x.1 else none)).foldl (St.prom E) σ
def zak (d:Nat):Operand→Bool | .tmp s=>!Nat.beq s d | _=>true
def zic (E:Env) (σ:St) (d1 d2:Nat) (t tx xt t':TypeId) (j n:Nat) (p q y:Operand) (k:St→Option R):Option R :=
 match E.ti[t]? with
 | some ⟨.sl e,.sl _ u,_⟩=>match E.ti[e]?,u.zero with
  | some i,some _=>bif u.flat&&(Nat.beq (E.tyOf t').sz 1&&Nat.beq (E.elemSz xt) 1) then z6y E σ tx e u y fun _ ys=>(match lk σ.rows j with
   | some ⟨e',.sl e2 u2,xs,false⟩=>(xs[n]?).bind fun x0=>zf (.sl e2 u2) (.sl e u) x0 fun x0=>if (List.length x0+List.length ys)*i.bytes≤LIM then (match opd σ p,opd σ q with
    | some (.ref j' []),some (.val (.int _) m)=>bif Nat.beq j j'&&(zak d1 p&&zak d1 q) then (if 0≤m∧m.toNat=n then zf (.sl e u) (.sl e2 u2) (List.append x0 ys) fun z=>k ((((σ.killIn j 0).setRow j ⟨e',.sl e2 u2,xs.set n z,false⟩).put (some d1) .un).put (some d2) .un) else none) else none
    | _,_=>none) else none
   | _=>none) else none
  | _,_=>none
 | _=>none
def zid (E:Env) (all:List Oper) (i:Nat) (l:List Oper) (σ:St) (k:St→Option R):Option R:=match l with
 | ⟨some d1,.call ⟨.builtin .append,args,ts⟩,_,_,_,none⟩::⟨some d2,.indexAddr xt p q,_,_,_,none⟩::⟨none,.store t' (.tmp s2) (.tmp s1),_,_,_,none⟩::r=>match args.toList,ts.toList with
  | [x,y],[t,tx]=>match opd σ x with
   | some (.ref j [.ix n])=>bif Nat.beq s1 d1&&(Nat.beq s2 d2&&!Nat.beq d1 d2) then zic E σ d1 d2 t tx xt t' j n p q y fun σ=>z5n E all (i+3) r σ k else none
   | _=>z5n E all i l σ k
  | _,_=>z5n E all i l σ k
 | _=>z5n E all i l σ k
def z5y (o:Oper):Bool:=o.guard.isNone&&(match o.op with
 | .move (.tmp _)=>true
 | .assign (.tmp _)=>true
 | .extract _ _=>true
 | .binOp .add _ _ _ _=>true
 | .binOp .sub _ _ _ _=>true
 | .binOp .mul _ _ _ _=>true
 | _=>false)
def z91 (o:Oper):Bool:=o.guard.isNone&&(match o.op with
 | .indexAddr _ _ _=>true
 | .fieldAddr _ _ _=>true
 | .nilCheck _=>true
 | .slice _ _ _ _ none=>true
 | .binOp .sub _ _ _ _=>true
 | _=>false)
def z4v (o:Oper):Bool:=o.guard.isNone&&(match o.op with | .load _ (.tmp _)=>true | _=>false)
def zel (s:Nat) (o:Oper):Bool:=match o.dst with | some d=>!Nat.beq d s | none=>true
def eqC:(t:Ty)→t.T→t.T→Option R→Option R
 | .int _,x,y,k=>if (show Int from x)=y then k else none
 | .bool,x,y,k=>if (show Bool from x)=y then k else none
 | .str,x,y,k=>if (show List UInt8 from x)=y then k else none
 | _,_,_,_=>none
def Ty.one:Ty→Bool | .int _=>true | .bool=>true | .str=>true | _=>false
def zem (E:Env) (σ:St) (k:Option R):List Oper→Option R
 | []=>k
 | o::l=>match o.dst with
  | some d=>match lk σ.sl d with
   | some (.val t x)=>z12 E σ o fun s _ _=>match s with
    | .val u y=>zf u t y fun y=>eqC t x y (zem E σ k l)
    | _=>none
   | _=>none
  | none=>none
def zen (σ:St) (o:Oper):Bool:=match o.dst with
 | some d=>match lk σ.sl d with | some (.val t _)=>t.one | _=>false
 | none=>false
def z92 (E:Env) (all lds:List Oper) (i:Nat) (l:List Oper) (σ:St) (k:St→Option R):Option R:=match lds with
 | []=>zid E all i l (σ.promAll E) k
 | lds=>match l with
  | []=>none
  | o::l=>bif o.guard.isNone&&(!z5y o&&lds.all (zen σ)) then z71 E (σ.promAll E) o fun σ=>zem E σ (zej all i o σ fun σ=>z5n E all (i+1) l σ k) lds else none
def zal (E:Env) (all lds:List Oper):List Nat→Nat→List Oper→St→(St→Option R)→Option R
 | p::ps,i,o::l,σ,k =>
  z3r all o (σ.hide (z32 all p i))
   (z12 E (σ.hide (z32 all p i)) o fun s nr nb=>bif σ.fresh (zp o) nr nb then zib all i s fun s=>zal E all lds ps (i+1) l ((σ.add nr nb).put o.dst s) k else none)
   (zal E all lds ps (i+1) l (σ.put o.dst (.tup .nl)) k)
 | [],i,l,σ,k=>z92 E all lds i l σ k
 | _,_,[],_,_=>none
def zeo:List Oper→Option (List Nat)
 | []=>some []
 | o::l=>match o.dst,zeo l with | some d,some ds=>some (d::ds) | _,_=>none
def zep (all:List Oper) (ps:List Nat) (m t:Nat):Bool:=match all[t]? with
 | some ⟨some d,.load _ (.tmp s),_,_,_,_⟩=>!Nat.beq s d&&(List.range all.length).all fun j=>Nat.ble j t||((match all[j]? with | some o=>zel s o&&zel d o | none=>true)&&(Nat.ble j m||Nat.testBit (ps.getD j 0) t))
 | some o=>!z4v o
 | none=>true
def zlm (z:List Nat) (o:Oper):Bool:=o.after.toList.all fun e=>!Region.binds .any e||z.any (Nat.beq e.on)
def z73 (n:Nat) (z:List Nat) (m i:Nat):Array Bool:=((List.range n).map fun j=>Nat.blt j i&&(Nat.ble m i||z.any (Nat.beq j))).toArray
def zue (E:Env) (o:Oper):Bool:=match o.op with
 | .store _ _ _=>true
 | .call ⟨.builtin .append,_,_⟩=>true
 | .call ⟨.value _,_,_⟩=>match E.opn (zp o) with | some _=>true | none=>false
 | _=>false
def z3j (E:Env):List Oper→Nat→Nat
 | [],i=>i
 | o::l,i=>bif zue E o then i else z3j E l (i+1)
def z33 (E:Env) (all:List Oper) (ps:List Nat):Nat×List Nat :=
 let n:=z3b ps 0
 let m:=z3j E all 0
 bif Nat.blt m n then
  let z1:=(List.range all.length).filter fun t=>(List.range all.length).any fun j=>Nat.ble m j&&(Nat.blt t j&&!Nat.testBit (ps.getD j 0) t)
  let z:=(List.range all.length).filter fun t=>z1.any (Nat.beq t)||(Nat.blt t m&&z1.any fun s=>Nat.blt s m&&Nat.testBit (ps.getD s 0) t)
  bif z42 0 all&&(Region.noSelect all.toArray&&z.all (fun i=>(match all[i]? with | some o=>(z5y o||(Nat.blt i m&&(z91 o||z4v o)))&&(Nat.ble m i||zlm z o) | none=>false)&&(Region.free .any all.toArray (z73 all.length z m i) i&&zep all ps m i))) then (m,z) else (n,[])
 else (n,[])
def z93 (all:List Oper) (z:List Nat):List Oper:=z.filterMap fun t=>match all[t]? with | some o=>bif z4v o then some o else none | none=>none
def zeq (E:Env) (all:List Oper) (σ:St) (k:St→Option R):Option R :=
 let ps:=zk all []
 let m:=(z33 E all ps).1
 match zeo (all.take m) with
 | some ds=>bif z4h ds&&z42 0 all then zal E all (z93 all (z33 E all ps).2) (ps.take m) 0 all (σ.hideS ds) k else none
 | none=>none

def zcm (π:Nat→Nat) (o:Oper):Oper:={ o with after:=o.after.map (fun e=>⟨π e.on,e.ground⟩),guard:=o.guard.map (fun g=>(π g.1,g.2)) }
def z5z:List Nat→Nat→Nat
 | [],_=>0
 | x::l,i=>bif Nat.beq x i then 0 else z5z l i+1
def zcn (all:List Oper) (ord:List Nat):Bool :=
 Nat.beq ord.length all.length&&((List.range all.length).all (fun i=>Nat.blt (z5z ord i) all.length&&(Nat.beq (ord.getD (z5z ord i) 0) i&&(Nat.blt (ord.getD i 0) all.length&&Nat.beq (z5z ord (ord.getD i 0)) i))) &&
  all.all (fun o=>o.after.toList.all (fun e=>!Region.binds .any e||Nat.blt e.on all.length)&&(match o.guard with | none=>true | some g=>Nat.blt g.1 all.length)))
def z81 (all : List Oper) (ord : List Nat) : List Oper := ord.map fun i => zcm (z5z ord) (all.getD i ⟨none, .move (.tmp 0), 0, "", #[], none⟩)
def zer (E:Env) (all:List Oper):List Oper :=
 let ps:=zk all []
 let m:=z3j E all 0
 bif Nat.blt m (z3b ps 0)&&Nat.blt m (z33 E all ps).1 then
  let ord:=(List.range all.length).filter (fun j=>!Nat.beq j m&&!Nat.testBit (ps.getD j 0) m)++m::(List.range all.length).filter (fun j=>Nat.testBit (ps.getD j 0) m)
  bif zcn all ord then z81 all ord else all
 else all
def zie (E:Env) (all:List Oper) (σ:St) (k:St→Option R):Option R:=zeq E (zer E all) σ k

def z43:Code→Nat
 | .region id _ _=>id
 | .seq a _=>z43 a
 | .block _ c=>z43 c
 | .loop c=>z43 c
 | .cond _ a _=>z43 a
 | _=>0
structure Oracles (R:Type) where
 loop:Nat→Option (St→(Nat→St→Option R)→Option R)
 cut:Nat→Option (St→(St→Option R)→(Nat→St→Option R)→Option R)

def evC (E:Env) (LO:Oracles R) (rd:St→Option R):Code→St→(St→Option R)→(Nat→St→Option R)→Option R
 | .skip,σ,kn,_=>kn σ
 | .region _ ops dr,σ,kn,_=>bif dr then zie E ops.toList σ kn else z5n E ops.toList 0 ops.toList σ kn
 | .seq a b,σ,kn,kx=>match LO.cut (z43 b) with
  | some f=>evC E LO rd a σ (fun σ=>f σ kn kx) kx
  | none=>evC E LO rd a σ (fun σ=>evC E LO rd b σ kn kx) kx
 | .cond c a b,σ,kn,kx=>match opd σ c with
  | some (.val .bool p)=>if p=true then evC E LO rd a σ kn kx else evC E LO rd b σ kn kx
  | _=>none
 | .block id c,σ,kn,kx=>evC E LO rd c σ kn fun j σ=>bif Nat.beq j id then kn σ else kx j σ
 | .loop c,σ,_,kx=>match LO.loop (z43 c) with
  | some f=>f σ kx
  | none=>none
 | .exit id,σ,_,kx=>kx id σ
 | .ret,σ,_,_=>rd σ
 | _,_,_,_=>none

def SV.ren (f:Nat→Nat):SV→SV
 | .ref j p=>.ref (f j) p
 | .vw j a b=>.vw (f j) a b
 | .ep j p n q o=>.ep (f j) p n q o
 | .st s=>.st (s.ren f)
 | .pr a b=>.pr (a.ren f) (b.ren f)
 | .clo g c=>.clo g (c.ren f)
 | .tup s=>.tup (s.ren f)
 | .cns a b=>.cns (a.ren f) (b.ren f)
 | v=>v
def z5o (sl:List (Nat×SV)):List Nat→List (Nat×SV)
 | []=>[]
 | s::l=>match lk sl s with | some v=>(s,v)::z5o sl l | none=>z5o sl l
def z60 (rows:List (Nat×Row)) (f:Nat→Nat):List Nat→List (Nat×Row)
 | []=>[]
 | i::l=>match lk rows i with | some r=>(f i,r)::z60 rows f l | none=>z60 rows f l
def z4w (bx:List (Nat×Bx)):List Nat→List (Nat×Bx)
 | []=>[]
 | s::l=>match lk bx s with | some v=>(s,v)::z4w bx l | none=>z4w bx l
def z44 (ids:List Nat) (i:Nat):Nat:=bif Nat.blt i PIN then NB+zaf i ids 0 else i
def St.norm (L B:List Nat) (σ:St):St :=
 let σ:=(σ.bx.filterMap (fun x=>bif B.any (Nat.beq x.1) then none else some x.1)).foldl St.dropB σ
 let sl:=z5o σ.sl L
 let bx:=z4w σ.bx B
 let ids:=z4i (σ.rows.filterMap (fun x=>bif Nat.blt x.1 PIN then none else some x.1)++(sl.flatMap (fun x=>x.2.roots)++bx.flatMap (fun x=>x.2.c.roots))) []
 bif Nat.blt ids.length 1000 then ⟨zw (SV.ren (z44 ids)) sl,z60 σ.rows (z44 ids) ids,zw (fun b=>⟨b.ty,b.c.ren (z44 ids)⟩) bx⟩ else ⟨[],[],[]⟩

def z74 (ids:List Nat) (i:Nat):Nat:=NB+zaf i ids 0
def St.normA (L B:List Nat) (σ:St):St :=
 let σ:=(σ.bx.filterMap (fun x=>bif B.any (Nat.beq x.1) then none else some x.1)).foldl St.dropB σ
 let sl:=z5o σ.sl L
 let bx:=z4w σ.bx B
 let ids:=z4i (sl.flatMap (fun x=>x.2.roots)++bx.flatMap (fun x=>x.2.c.roots)) []
 bif Nat.blt ids.length 1000 then ⟨zw (SV.ren (z74 ids)) sl,z60 σ.rows (z74 ids) ids,zw (fun b=>⟨b.ty,b.c.ren (z74 ids)⟩) bx⟩ else ⟨[],[],[]⟩

def Head.getP (h:Head) (σ:St) (k:h.T→Option R):Option R :=
 let σ:=σ.norm (h.sl.map (·.1)) (h.bx.map (·.1))
 zah σ.sl h.sl fun x=>zai σ.rows h.rows fun y=>zaj σ.bx h.bx fun z=>k (x,y,z)
def Head.getA (h:Head) (σ:St) (k:h.T→Option R):Option R :=
 let σ:=σ.normA (h.sl.map (·.1)) (h.bx.map (·.1))
 zah σ.sl h.sl fun x=>zai σ.rows h.rows fun y=>zaj σ.bx h.bx fun z=>k (x,y,z)
def Head.pinned (h:Head):Bool:=h.rows.any fun r=>!Nat.blt r.1 PIN
def Head.get (h:Head) (σ:St) (k:h.T→Option R):Option R:=bif h.pinned then h.getP σ k else h.getA σ k
def zco (ex:List (Nat×Head)) (kx:Nat→St→Option R) (id:Nat) (σ:St):Option R :=
 match lk ex id with
 | some h=>h.get σ fun x=>kx id (h.fill x)
 | none=>none

def z1p:(t:Ty)→List SVal→(t.T→Option R)→Option R
 | .un,[],k=>k ()
 | .pr a b,s::l,k=>zf s.t a s.x fun x=>z1p b l fun y=>k (x,y)
 | .int i,[s],k=>zf s.t (.int i) s.x k
 | .bool,[s],k=>zf s.t .bool s.x k
 | .str,[s],k=>zf s.t .str s.x k
 | .sl e t,[s],k=>zf s.t (.sl e t) s.x k
 | .st t,[s],k=>zf s.t (.st t) s.x k
 | .ptr t,[s],k=>zf s.t (.ptr t) s.x k
 | .fn g c,[s],k=>zf s.t (.fn g c) s.x k
 | .fs ids,[s],k=>zf s.t (.fs ids) s.x k
 | _,_,_=>none
def z4x:(t:Ty)→t.T→Nat→List (Nat×SV)
 | .un,_,_=>[]
 | .pr a b,x,i=>(i,.val a x.1)::z4x b x.2 (i+1)
 | .int k,x,i=>[(i,.val (.int k) x)]
 | .bool,x,i=>[(i,.val .bool x)]
 | .str,x,i=>[(i,.val .str x)]
 | .sl e t,x,i=>[(i,.val (.sl e t) x)]
 | .st t,x,i=>[(i,.val (.st t) x)]
 | .ptr t,x,i=>[(i,.val (.ptr t) x)]
 | .fn g c,x,i=>[(i,.val (.fn g c) x)]
 | .fs ids,x,i=>[(i,.val (.fs ids) x)]
 | .rd t,x,i=>[(i,.val (.rd t) x)]
def z82 (E:Env) (σ:St):ResultVar→Option SV
 | .tmp s=>lk σ.sl s
 | .cell a t=>match lk σ.sl a with
  | some (.bp j q o)=>match lk σ.bx j with
   | some b=>match b.c.part q with
    | some s=>bif Nat.beq (b.c.offP q) o&&(s.fit (E.tyOf t)).okW (E.tyOf t) then some (s.fit (E.tyOf t)) else none
    | none=>none
   | none=>none
  | _=>none
def zcp (E:Env):List ResultVar→(t:Ty)→St→(St→t.T→Option R)→Option R
 | [],t,σ,k=>match t,k with | .un,k=>k σ () | _,_=>none
 | r::l,t,σ,k=>match z82 E σ r with
  | some s=>match l with
   | []=>z2q E depth σ s fun σ u y=>zf u t y fun y=>k σ y
   | l=>match t,k with
    | .pr a b,k=>z2q E depth σ s fun σ u y=>zf u a y fun y=>zcp E l b σ fun σ z=>k σ (y,z)
    | _,_=>none
  | none=>none
end
structure FE where
 ts:Ty
 n:Nat
 t:Ty
 F:ts.T→Option t.T
def zam:List (Nat×FE)→Nat→List SVal→Option CR
 | [],_,_=>none
 | (h,fe)::l,g,args=>bif Nat.beq h g then (match z1p fe.ts args fun x=>some (⟨fe.n,fe.t,fe.F x⟩:CR) with | some r=>some r | none=>zam l g args) else zam l g args
def zq (ti:List TI) (tab:List (Nat×FE)) (opn:Nat→Option (FuncId×OC)) (pins:Nat→Value) (pinB:Nat→Nat):Env:=⟨ti,zam tab,opn,pins,pinB⟩
def rdC (E:Env) (rs:List ResultVar) (t:Ty) (σ:St):Option t.T:=bif t.noRd then zcp E rs t σ fun _ x=>some x else none
def z83 (E:Env) (σ:St):List ResultVar→Option (List SV)
 | []=>some []
 | r::l=>match z82 E σ r,z83 E σ l with | some s,some ss=>some (s::ss) | _,_=>none
def SV.nt:SV→Bool | .tup _=>false | .un=>false | _=>true
def zes:List SV→SV
 | [s]=>s
 | l=>.tup (z2w l)
def rdO (E:Env) (rs:List ResultVar) (ho:Head) (σ:St):Option ho.T:=match z83 E σ rs with
 | some l=>bif l.all SV.nt then ho.get ⟨[(0,zes l)],σ.rows,σ.bx⟩ some else none
 | none=>none
end Go.Proofs.YtjbnebolfnjneaaGreatDoor.Ev

/- The evaluator's helpers in their two forms (with what follows, and without), and that they only gain by more knowledge. Plain Lean: no program. -/
namespace Go.Proofs.YtjbnebolfnjneaaGreatDoor.Ev

theorem z61:∀ t:Ty,t.strip.sz=t.sz
 | .sl _ _=>rfl
 | .st t=>z61 t
 | .pr a b=>by show a.strip.sz+b.strip.sz=_; rw [z61 a,z61 b]; rfl
 | .ptr _=>rfl
 | .fn _ _=>rfl
 | .fs _=>rfl
 | .rd t=>z61 t
 | .int _=>rfl
 | .bool=>rfl
 | .str=>rfl
 | .un=>rfl

section
variable {R : Type}

theorem z4y (u t:Ty) (x:u.T) (k:t.T→Option R):zf u t x k=(zf u t x some).bind k:=by
 unfold zf
 split <;> simp

def sub (t:Ty) (x:t.T) (p:List Step):Option SVal:=z3h t x p fun t x=>some ⟨t,x⟩
theorem z2r:∀ (t:Ty) (x:t.T) (p:List Step) (k:(u:Ty)→u.T→Option R),z3h t x p k=(sub t x p).bind fun v=>k v.t v.x
 | .sl e t,xs,p,k=>by
  match p with
  | []=>rfl
  | .f _::_=>rfl
  | .u::_=>rfl
  | .ix n::p =>
   show (xs[n]?).bind _=((xs[n]?).bind _).bind _
   rw [Option.bind_assoc]
   congr 1
   funext x
   exact z2r t x p k
 | .st t,x,p,k=>by
  match p with
  | []=>rfl
  | .u::p=>exact z2r t x p k
  | .ix n::p=>exact z2r t x (.ix n::p) k
  | .f b::p=>exact z2r t x (.f b::p) k
 | .pr a b,x,p,k=>by
  match p with
  | []=>rfl
  | .ix _::_=>rfl
  | .u::_=>rfl
  | .f false::p=>exact z2r a x.1 p k
  | .f true::p=>exact z2r b x.2 p k
 | .int _,x,p,k=>by match p with | []=>rfl | _::_=>rfl
 | .bool,x,p,k=>by match p with | []=>rfl | _::_=>rfl
 | .str,x,p,k=>by match p with | []=>rfl | _::_=>rfl
 | .ptr _,x,p,k=>by match p with | []=>rfl | _::_=>rfl
 | .un,x,p,k=>by match p with | []=>rfl | _::_=>rfl
 | .rd _,x,p,k=>by match p with | []=>rfl | _::_=>rfl
 | .fn _ _,x,p,k=>by match p with | []=>rfl | _::_=>rfl
 | .fs _,x,p,k=>by match p with | []=>rfl | _::_=>rfl

def zet (want u:Ty) (x:u.T):Option SVal:=z6w want u x fun t x=>some ⟨t,x⟩
theorem zcq (want u:Ty) (x:u.T) (k:(t:Ty)→t.T→Option R):z6w want u x k=(zet want u x).bind fun v=>k v.t v.x:=by
 unfold zet z6w
 split
 ·rfl
 ·split
  ·split <;> rfl
  ·rfl

theorem z94 (rc:{R:Type}→SV→((u:Ty)→u.T→Option R)→Option R) (hrc:∀ {R:Type} s (k:(u:Ty)→u.T→Option R),rc s k=(rc s (fun t x=>some (SVal.mk t x))).bind fun v=>k v.t v.x) (t:Ty) :
  ∀ (s:SV) {R:Type} (k:List t.T→Option R),lsC (fun s k=>rc s k) t s k=(lsC (fun s k=>rc s k) t s some).bind k
 | .nl,_,k=>rfl
 | .cns a b,R,k=>by
  simp only [lsC]
  rw [hrc a,hrc a (fun u x=>zf u t x fun x=>lsC (fun s k=>rc s k) t b fun xs=>some (x::xs)),Option.bind_assoc]
  congr 1
  funext v
  rw [z4y,z4y v.t t v.x (fun x=>lsC (fun s k=>rc s k) t b fun xs=>some (x::xs)),Option.bind_assoc]
  congr 1
  funext x
  rw [z94 rc hrc t b,z94 rc hrc t b (fun xs=>some (x::xs)),Option.bind_assoc]
  rfl
 | .val _ _,_,_=>rfl
 | .ref _ _,_,_=>rfl
 | .vw _ _ _,_,_=>rfl
 | .ls _,_,_=>rfl
 | .st _,_,_=>rfl
 | .pr _ _,_,_=>rfl
 | .bp _ _ _,_,_=>rfl
 | .ep _ _ _ _ _,_,_=>rfl
 | .lp _ _,_,_=>rfl
 | .clo _ _,_,_=>rfl
 | .tup _,_,_=>rfl
 | .no,_,_=>rfl
 | .er _,_,_=>rfl
 | .un,_,_=>rfl

def res (E:Env) (σ:St) (d:Nat) (s:SV):Option SVal:=zj E σ d s fun t x=>some ⟨t,x⟩
theorem zy (E:Env) (σ:St):∀ (d:Nat) (s:SV) {R:Type} (k:(t:Ty)→t.T→Option R),zj E σ d s k=(res E σ d s).bind fun v=>k v.t v.x
 | 0,s,R,k=>rfl
 | d+1,s,R,k=>by
  unfold res
  cases s with
  | val t x=>rfl
  | ref i p =>
   simp only [zj]
   split
   ·exact z2r _ _ _ _
   ·rfl
  | vw i lo n =>
   simp only [zj]
   split <;> rfl
  | ls i =>
   simp only [zj]
   split
   ·rename_i b _
    have h:=fun {R:Type} (k:List (E.tyOf b.ty).T→Option R)=>z94 (fun s k=>zj E σ d s k) (fun s k=>zy E σ d s k) (E.tyOf b.ty) b.c k
    refine (h _).trans (Eq.trans ?_ (congrArg (fun z=>Option.bind z _) (h _).symm))
    rw [Option.bind_assoc]
    rfl
   ·rfl
  | st s =>
   simp only [zj]
   rw [zy E σ d s,zy E σ d s (fun t x=>some _),Option.bind_assoc]
   rfl
  | pr a b =>
   simp only [zj]
   rw [zy E σ d a,zy E σ d a (fun t x=>zj E σ d b _),Option.bind_assoc]
   congr 1
   funext v
   rw [zy E σ d b,zy E σ d b (fun t x=>some _),Option.bind_assoc]
   rfl
  | bp i p o =>
   simp only [zj]
   split
   ·split
    ·cases Nat.beq _ _
     ·rfl
     ·simp only [cond_true]
      rw [zy E σ d,zy E σ d _ (fun t x=>some _),Option.bind_assoc]
      rfl
    ·rfl
   ·rfl
  | ep i p n f o =>
   simp only [zj]
   split
   ·rw [z2r,z2r _ _ _ (fun t x=>bif Nat.beq (t.offP f) o then _ else none),Option.bind_assoc]
    congr 1
    funext v
    cases Nat.beq _ _
    ·rfl
    ·simp only [cond_true]
     rw [z2r,z2r _ _ _ (fun t x=>some _),Option.bind_assoc]
     rfl
   ·rfl
  | lp i n=>rfl
  | clo g c =>
   simp only [zj]
   rw [zy E σ d c,zy E σ d c (fun t x=>some _),Option.bind_assoc]
   rfl
  | tup s=>rfl
  | cns a b=>rfl
  | nl=>rfl
  | no=>rfl
  | er b=>rfl
  | un=>rfl

def zan (E:Env) (σ:St) (l:List SV):Option (List SVal):=z4s E σ l some
theorem z77 (E:Env) (σ:St):∀ (l:List SV) {R:Type} (k:List SVal→Option R),z4s E σ l k=(zan E σ l).bind k
 | [],_,k=>rfl
 | s::l,R,k=>by
  unfold zan
  simp only [z4s]
  rw [zy,zy _ _ _ _ (fun t x=>z4s E σ l fun r=>some _),Option.bind_assoc]
  congr 1
  funext v
  rw [z77 E σ l,z77 E σ l (fun r=>some _),Option.bind_assoc]
  rfl

def zao (op:BinOp) (k:IntKind) (x y:Int):Option SVal:=z7t op k x y fun t x=>some ⟨t,x⟩
theorem zuf (op:BinOp) (i:IntKind) (x y:Int) (k:(t:Ty)→t.T→Option R):z7t op i x y k=(zao op i x y).bind fun v=>k v.t v.x:=by
 unfold zao
 cases op <;> simp only [z7t,Option.bind_some,Option.bind_none] <;> split <;> rfl
def zap (op:BinOp) (x y:List UInt8):Option SVal:=z8u op x y fun t x=>some ⟨t,x⟩
theorem zug (op:BinOp) (x y:List UInt8) (k:(t:Ty)→t.T→Option R):z8u op x y k=(zap op x y).bind fun v=>k v.t v.x:=by
 unfold zap
 cases op <;> simp only [z8u,Option.bind_some,Option.bind_none]
 split <;> rfl
def bin (i:Option TI) (op:BinOp) (t u:Ty) (x:t.T) (y:u.T):Option SVal:=z5j i op t u x y fun t x=>some ⟨t,x⟩
theorem zeu (i:Option TI) (op:BinOp) (t u:Ty) (x:t.T) (y:u.T) (k:(t:Ty)→t.T→Option R):z5j i op t u x y k=(bin i op t u x y).bind fun v=>k v.t v.x:=by
 unfold bin
 unfold z5j
 split
 ·split
  ·split <;> rfl
  ·split <;> rfl
  ·split
   ·exact zuf _ _ _ _ _
   ·rfl
 ·split
  ·split <;> rfl
  ·rfl
 ·exact zug _ _ _ _
 ·split
  ·split
   ·split
    ·split
     ·split <;> rfl
     ·rfl
    ·rfl
   ·rfl
  ·rfl
 ·rfl

def zev (E:Env) (σ:St) (x:Option Operand) (d:Int):Option Int:=z31 E σ x d some
theorem z2x (E:Env) (σ:St) (x:Option Operand) (d:Int) (k:Int→Option R):z31 E σ x d k=(zev E σ x d).bind k:=by
 unfold zev z31
 split
 ·rfl
 ·split <;> rfl

abbrev Out:Type:=SV×List (Nat×Row)×List (Nat×Bx)
def zcr (E:Env) (g:FuncId) (args:List SVal) (vo:Bool) (d:Nat):Option Out:=z8w E g args vo d fun a b c=>some (a,b,c)
theorem zln (E:Env) (g:FuncId) (args:List SVal) (vo:Bool) (d:Nat) (k:SV→List (Nat×Row)→List (Nat×Bx)→Option R) :
  z8w E g args vo d k=(zcr E g args vo d).bind fun x=>k x.1 x.2.1 x.2.2:=by
 unfold zcr z8w
 split
 ·rename_i n t v _
  cases Nat.beq n RON <;> cases Nat.blt RON n <;> cases vo <;> simp only [cond_true,cond_false] <;> first | rfl | (rw [Option.bind_assoc]; rfl)
 ·rfl

theorem zlo (E:Env) (g:Nat) (args:List SVal) (vo:Bool) (d:Nat) (k:SV→List (Nat×Row)→List (Nat×Bx)→Option R):∀ l:List FuncId,
  z8x E g args vo d k l=(z8x E g args vo d (fun a b c=>some (a,b,c)) l).bind fun x=>k x.1 x.2.1 x.2.2
 | []=>rfl
 | a::l=>by
  simp only [z8x]
  split
  ·exact zln _ _ _ _ _ _
  ·exact zlo E g args vo d k l
def ze (E:Env) (σ:St) (o:Oper):Option Out:=z12 E σ o fun a b c=>some (a,b,c)
theorem zuh {R:Type} {E:Env} {σ:St} {d:Nat} {s:SV} {K:(t:Ty)→t.T→Option R} {K':(t:Ty)→t.T→Option Out} {k:SV→List (Nat×Row)→List (Nat×Bx)→Option R}
  (h:∀ t x,K t x=(K' t x).bind fun x=>k x.1 x.2.1 x.2.2):zj E σ d s K=(zj E σ d s K').bind fun x=>k x.1 x.2.1 x.2.2:=by
 rw [zy,zy _ _ _ _ K',Option.bind_assoc]
 congr 1
 funext v
 exact h _ _
theorem zui {R:Type} {E:Env} {σ:St} {x:Option Operand} {d:Int} {K:Int→Option R} {K':Int→Option Out} {k:SV→List (Nat×Row)→List (Nat×Bx)→Option R}
  (h:∀ n,K n=(K' n).bind fun x=>k x.1 x.2.1 x.2.2):z31 E σ x d K=(z31 E σ x d K').bind fun x=>k x.1 x.2.1 x.2.2:=by
 rw [z2x,z2x _ _ _ _ K',Option.bind_assoc]
 congr 1
 funext v
 exact h _
theorem zuj {R:Type} {i:Option TI} {op:BinOp} {t u:Ty} {x:t.T} {y:u.T} {K:(t:Ty)→t.T→Option R} {K':(t:Ty)→t.T→Option Out} {k:SV→List (Nat×Row)→List (Nat×Bx)→Option R}
  (h:∀ t x,K t x=(K' t x).bind fun x=>k x.1 x.2.1 x.2.2):z5j i op t u x y K=(z5j i op t u x y K').bind fun x=>k x.1 x.2.1 x.2.2:=by
 rw [zeu,zeu _ _ _ _ _ _ K',Option.bind_assoc]
 congr 1
 funext v
 exact h _ _
theorem zuk {R:Type} {t u:Ty} {x:u.T} {K:(t:Ty)→t.T→Option R} {K':(t:Ty)→t.T→Option Out} {k:SV→List (Nat×Row)→List (Nat×Bx)→Option R}
  (h:∀ t x,K t x=(K' t x).bind fun x=>k x.1 x.2.1 x.2.2):z6w t u x K=(z6w t u x K').bind fun x=>k x.1 x.2.1 x.2.2:=by
 rw [zcq,zcq _ _ _ K',Option.bind_assoc]
 congr 1
 funext v
 exact h _ _
theorem zul {R:Type} {t:Ty} {x:t.T} {p:List Step} {K:(t:Ty)→t.T→Option R} {K':(t:Ty)→t.T→Option Out} {k:SV→List (Nat×Row)→List (Nat×Bx)→Option R}
  (h:∀ t x,K t x=(K' t x).bind fun x=>k x.1 x.2.1 x.2.2):z3h t x p K=(z3h t x p K').bind fun x=>k x.1 x.2.1 x.2.2:=by
 rw [z2r,z2r _ _ _ K',Option.bind_assoc]
 congr 1
 funext v
 exact h _ _
theorem zum {R:Type} {E:Env} {σ:St} {l:List SV} {K:List SVal→Option R} {K':List SVal→Option Out} {k:SV→List (Nat×Row)→List (Nat×Bx)→Option R}
  (h:∀ l,K l=(K' l).bind fun x=>k x.1 x.2.1 x.2.2):z4s E σ l K=(z4s E σ l K').bind fun x=>k x.1 x.2.1 x.2.2:=by
 rw [z77,z77 _ _ _ K',Option.bind_assoc]
 congr 1
 funext v
 exact h _
theorem zun {R:Type} {α:Type} {z:Option α} {K:α→Option R} {K':α→Option Out} {k:SV→List (Nat×Row)→List (Nat×Bx)→Option R}
  (h:∀ l,K l=(K' l).bind fun x=>k x.1 x.2.1 x.2.2):z.bind K=(z.bind K').bind fun x=>k x.1 x.2.1 x.2.2:=by
 rw [Option.bind_assoc]
 congr 1
 funext v
 exact h _

theorem zew {R:Type} (E:Env) (σ:St) (o:Oper) (k:SV→List (Nat×Row)→List (Nat×Bx)→Option R):z12 E σ o k=(ze E σ o).bind fun x=>k x.1 x.2.1 x.2.2:=by
 unfold ze
 cases hop:o.op <;> simp only [z12,hop] <;>
 repeat' (first
  | rfl
  | (apply zuh; intros)
  | (apply zui; intros)
  | (apply zuj; intros)
  | (apply zuk; intros)
  | (apply zul; intros)
  | (apply zum; intros)
  | (apply zln)
  | (apply zlo)
  | (apply zun; intros)
  | split
  | (cases Nat.beq _ _ <;> simp only [cond_true,cond_false])
  | (simp only [Bool.cond_eq_ite]))
end
end Go.Proofs.YtjbnebolfnjneaaGreatDoor.Ev

/- An operation without effect answers the same where more is known. Plain Lean: no program. -/
namespace Go.Proofs.YtjbnebolfnjneaaGreatDoor.Ev

structure Le (σ σ':St):Prop where
 sl:∀ s v,lk σ.sl s=some v→lk σ'.sl s=some v
 rows:∀ s v,lk σ.rows s=some v→lk σ'.rows s=some v
 bx:∀ s v,lk σ.bx s=some v→lk σ'.bx s=some v

section
variable {R : Type} {E : Env} {σ σ' : St}

theorem z1b (hle:Le σ σ') {x:Operand} {v:SV} (h:opd σ x=some v):opd σ' x=some v:=by
 cases x with
 | tmp s=>exact hle.sl s v h
 | const c=>exact h
 | global g=>exact h
 | func f=>exact h
theorem z84 (hle:Le σ σ'):∀ {l:List Operand} {vs:List SV},z4t σ l=some vs→z4t σ' l=some vs
 | [],vs,h=>h
 | x::l,vs,h=>by
  simp only [z4t] at h ⊢
  split at h
  ·rename_i s r h1 h2
   rw [z1b hle h1,z84 hle h2]
   exact h
  ·cases h

theorem zlp {rc rc':SV→((u:Ty)→u.T→Option R)→Option R} {r:R} (hrc:∀ s (K K':(u:Ty)→u.T→Option R),(∀ t x,K t x=some r→K' t x=some r)→rc s K=some r→rc' s K'=some r) (t:Ty) :
  ∀ (s:SV) (k k':List t.T→Option R),(∀ xs,k xs=some r→k' xs=some r)→lsC rc t s k=some r→lsC rc' t s k'=some r
 | .nl,k,k',hk,h=>hk _ h
 | .cns a b,k,k',hk,h=>by
  simp only [lsC] at h ⊢
  refine hrc a _ _ ?_ h
  intro u x h
  unfold zf at h ⊢
  split at h
  ·rename_i he
   rw [dif_pos he]
   exact zlp hrc t b _ _ (fun xs=>hk _) h
  ·cases h
 | .val _ _,_,_,_,h=>by cases h
 | .ref _ _,_,_,_,h=>by cases h
 | .vw _ _ _,_,_,_,h=>by cases h
 | .ls _,_,_,_,h=>by cases h
 | .st _,_,_,_,h=>by cases h
 | .pr _ _,_,_,_,h=>by cases h
 | .bp _ _ _,_,_,_,h=>by cases h
 | .ep _ _ _ _ _,_,_,_,h=>by cases h
 | .lp _ _,_,_,_,h=>by cases h
 | .clo _ _,_,_,_,h=>by cases h
 | .tup _,_,_,_,h=>by cases h
 | .no,_,_,_,h=>by cases h
 | .er _,_,_,_,h=>by cases h
 | .un,_,_,_,h=>by cases h

theorem zif {t:Ty} {x:t.T} {p:List Step} {r:R} {K K':(u:Ty)→u.T→Option R} (hk:∀ t x,K t x=some r→K' t x=some r) (h:z3h t x p K=some r):z3h t x p K'=some r:=by
 rw [z2r] at h ⊢
 obtain ⟨v,h1,h2⟩:=Option.bind_eq_some_iff.1 h
 rw [h1]
 exact hk _ _ h2

theorem z59 (hle:Le σ σ') {r:R}:∀ {d:Nat} {s:SV} {K K':(u:Ty)→u.T→Option R},(∀ t x,K t x=some r→K' t x=some r)→zj E σ d s K=some r→zj E σ' d s K'=some r
 | 0,s,K,K',hk,h=>by cases h
 | d+1,s,K,K',hk,h=>by
  cases s with
  | val t x=>exact hk _ _ h
  | ref i p =>
   simp only [zj] at h ⊢
   split at h
   ·rename_i hr; rw [hle.rows _ _ hr]; exact zif hk h
   ·cases h
  | vw i lo n =>
   simp only [zj] at h ⊢
   split at h
   ·rename_i hr; rw [hle.rows _ _ hr]; exact hk _ _ h
   ·cases h
  | ls i =>
   simp only [zj] at h ⊢
   split at h
   ·rename_i hr; rw [hle.bx _ _ hr]
    exact zlp (rc:=zj E σ d) (rc':=zj E σ' d) (fun s K K' hk h=>z59 hle hk h) _ _ _ _ (fun xs=>hk _ _) h
   ·cases h
  | st s =>
   simp only [zj] at h ⊢
   exact z59 hle (fun t x h=>hk _ _ h) h
  | pr a b =>
   simp only [zj] at h ⊢
   exact z59 hle (fun t x h=>z59 hle (fun u y h=>hk _ _ h) h) h
  | bp i p o =>
   simp only [zj] at h ⊢
   split at h
   ·rename_i hr; rw [hle.bx _ _ hr]
    simp only []
    split at h
    ·cases hb:Nat.beq _ _ <;> rw [hb] at h
     ·cases h
     ·exact z59 hle (fun t x h=>hk _ _ h) h
    ·cases h
   ·cases h
  | ep i p n f o =>
   simp only [zj] at h ⊢
   split at h
   ·rename_i hr; rw [hle.rows _ _ hr]
    refine zif (fun t x h=>?_) h
    cases hb:Nat.beq _ _ <;> rw [hb] at h
    ·cases h
    ·exact zif (fun t x h=>hk _ _ h) h
   ·cases h
  | lp i n=>cases h
  | clo g c =>
   simp only [zj] at h ⊢
   exact z59 hle (fun t x h=>hk _ _ h) h
  | tup s=>cases h
  | cns a b=>cases h
  | nl=>cases h
  | no=>exact hk _ _ h
  | er b=>cases h
  | un=>cases h

theorem zex (hle:Le σ σ') {r:R}:∀ {l:List SV} {K K':List SVal→Option R},(∀ l,K l=some r→K' l=some r)→z4s E σ l K=some r→z4s E σ' l K'=some r
 | [],K,K',hk,h=>hk _ h
 | s::l,K,K',hk,h=>z59 hle (fun t x h=>zex hle (fun l h=>hk _ h) h) h

theorem z62 (hle:Le σ σ') {r:R} {x:Option Operand} {d:Int} {K K':Int→Option R} (hk:∀ n,K n=some r→K' n=some r) (h:z31 E σ x d K=some r):z31 E σ' x d K'=some r:=by
 unfold z31 at h ⊢
 split at h
 ·exact hk _ h
 ·split at h
  ·rename_i hx; simp only [z1b hle hx]; exact hk _ h
  ·cases h

theorem zuo (hle:Le σ σ') {parts:List (Nat×Operand)} {f:TypeId} {i n:Nat} {z:SV×List (Nat×Row)×Nat} (h:z7v E σ parts f i n=some z):z7v E σ' parts f i n=some z:=by
 unfold z7v at h ⊢
 split at h
 ·exact h
 ·split at h
  ·rename_i hx; simp only [z1b hle hx]; exact h
  ·cases h
 ·exact h
theorem zlq (hle:Le σ σ') {parts:List (Nat×Operand)}:∀ {fs:List (TypeId×Nat)} {i n:Nat} {r:SV×List (Nat×Row)},z6x E σ parts fs i n=some r→z6x E σ' parts fs i n=some r
 | [],i,n,r,h=>by cases h
 | (f,o)::fs,i,n,r,h=>by
  simp only [z6x] at h ⊢
  split at h
  ·rename_i hz
   simp only [zuo hle hz]
   cases hb:(SV.okW _ _) <;> rw [hb] at h
   ·cases h
   ·simp only [cond_true] at h ⊢
    split at h
    ·exact h
    ·split at h
     ·rename_i hx; simp only [zlq hle hx]; exact h
     ·cases h
  ·cases h

theorem zig (hle:Le σ σ') {o:Oper} {k:SV→List (Nat×Row)→List (Nat×Bx)→Option R} {r:R} (h:z12 E σ o k=some r):z12 E σ' o k=some r:=by
 revert h
 cases hop:o.op <;> simp only [z12,hop] <;> intro h
 case move x =>
  split at h
  ·exact h
  ·split at h
   ·rename_i hx; simp only [z1b hle hx]; exact h
   ·cases h
 case assign x =>
  split at h
  ·exact h
  ·split at h
   ·rename_i hx; simp only [z1b hle hx]; exact h
   ·cases h
 case pick c a b =>
  split at h
  ·rename_i hc
   simp only [z1b hle hc]
   split at h
   ·rename_i hp
    rw [if_pos hp]
    split at h
    ·rename_i hx; simp only [z1b hle hx]; exact h
    ·cases h
   ·rename_i hp
    rw [if_neg hp]
    split at h
    ·rename_i hx; simp only [z1b hle hx]; exact h
    ·cases h
  ·cases h
 case alloc t=>exact h
 case box t x =>
  split at h
  ·rename_i hx; simp only [z1b hle hx]; exact h
  ·cases h
 case build t parts =>
  split at h
  ·rename_i fs _ _ _
   split at h
   ·cases hz:zab (parts.toList.map (·.1)) fs.length <;> rw [hz] at h
    ·cases h
    ·simp only [Bool.not_true,cond_false] at h ⊢
     split at h
     ·rename_i hx; simp only [zlq hle hx]; exact h
     ·cases h
   ·cases h
  ·cases h
 case buildSlice t n parts =>
  split at h
  ·split at h
   ·cases hb:(zac parts.toList 0&&(Nat.beq parts.toList.length n&&Nat.ble (n*(E.tyOf _).sz) 16777216)) <;> rw [hb] at h
    ·cases h
    ·simp only [cond_true] at h ⊢
     split at h
     ·rename_i hx; simp only [z84 hle hx]; exact h
     ·cases h
   ·cases h
  ·cases h
 case load t x =>
  cases hz:Nat.beq (E.tyOf t).sz 0 <;> rw [hz] at h
  ·simp only [cond_false] at h ⊢
   split at h
   ·rename_i hx; simp only [z1b hle hx]; exact h
   ·rename_i hx; simp only [z1b hle hx]
    split at h
    ·rename_i hb; rw [hle.bx _ _ hb]; exact h
    ·cases h
   ·rename_i hx; simp only [z1b hle hx]
    split at h
    ·rename_i hb; rw [hle.rows _ _ hb]; exact h
    ·cases h
   ·rename_i hx; simp only [z1b hle hx]
    exact z59 hle (fun t x h=>h) h
   ·cases h
  ·cases h
 case nilCheck x =>
  split at h <;> first | (rename_i hx; simp only [z1b hle hx]; exact h) | cases h
 case binOp op t x y u =>
  split at h
  ·rename_i hx hy; simp only [z1b hle hx,z1b hle hy]
   exact z59 hle (fun t x h=>z59 hle (fun u y h=>h) h) h
  ·cases h
 case unOp op t x =>
  split at h <;> first | (rename_i hx; simp only [z1b hle hx]; exact h) | cases h
 case convert s t x =>
  split at h
  ·rename_i hx; simp only [z1b hle hx]
   cases hz:E.known s <;> rw [hz] at h
   ·cases h
   ·simp only [Bool.not_true,cond_false] at h ⊢
    split at h
    ·exact h
    ·split at h
     ·exact h
     ·split at h
      ·exact z59 hle (fun t x h=>h) h
      ·cases h
    ·exact h
    ·cases h
  ·cases h
 case makeFunc fn first caps =>
  split at h
  ·split at h <;> first | (rename_i h1 h2; simp only [z84 hle h2,h1]; exact h) | cases h
  ·cases h
 case makeSlice t len cap =>
  split at h
  ·rename_i h1 h2 h3; simp only [z1b hle h2,z1b hle h3,h1]; exact h
  ·cases h
 case slice xt x lo hi mx =>
  cases hm:mx.isSome <;> rw [hm] at h
  ·simp only [cond_false] at h ⊢
   split at h
   ·rename_i hx; simp only [z1b hle hx]
    cases hz:(!E.isStr xt) <;> rw [hz] at h
    ·simp only [cond_false] at h ⊢; exact z62 (E:=E) hle (fun n h=>z62 (E:=E) hle (fun m h=>h) h) h
    ·cases h
   ·rename_i hx; simp only [z1b hle hx]
    rename_i e u s
    cases hz:(!(Nat.beq u.sz (E.elemSz xt)&&!Nat.beq u.sz 0)) <;> rw [hz] at h
    ·simp only [cond_false] at h ⊢; exact z62 (E:=E) hle (fun n h=>z62 (E:=E) hle (fun m h=>h) h) h
    ·cases h
   ·rename_i hx; simp only [z1b hle hx]
    split at h
    ·rename_i r hb; rw [hle.rows _ _ hb]
     simp only []
     cases hz:(!(Nat.beq r.t.sz (E.elemSz xt)&&!Nat.beq r.t.sz 0)) <;> rw [hz] at h
     ·simp only [cond_false] at h ⊢; exact z62 (E:=E) hle (fun n h=>z62 (E:=E) hle (fun m h=>h) h) h
     ·cases h
    ·cases h
   ·rename_i hx; simp only [z1b hle hx]
    split at h
    ·rename_i r hb; rw [hle.rows _ _ hb]
     simp only []
     cases hz:(!(Nat.beq r.t.sz (E.elemSz xt)&&!Nat.beq r.t.sz 0)) <;> rw [hz] at h
     ·simp only [cond_false] at h ⊢; exact z62 (E:=E) hle (fun n h=>z62 (E:=E) hle (fun m h=>h) h) h
     ·cases h
    ·cases h
   ·cases h
  ·simp only [cond_true] at h ⊢
   split at h
   ·rename_i hx; simp only [z1b hle hx]
    split at h
    ·rename_i r hb; rw [hle.rows _ _ hb]
     simp only []
     cases hz:(!(Nat.beq r.t.sz (E.elemSz xt)&&!Nat.beq r.t.sz 0)) <;> rw [hz] at h
     ·simp only [cond_false] at h ⊢; exact z62 (E:=E) hle (fun n h=>z62 (E:=E) hle (fun m h=>z62 (E:=E) hle (fun q h=>h) h) h) h
     ·cases h
    ·cases h
   ·cases h
 case fieldAddr t x i =>
  split at h
  ·split at h <;> first | (rename_i hx; simp only [z1b hle hx]; exact h) | cases h
  ·cases h
 case field t x i =>
  split at h
  ·split at h
   ·rename_i hx; simp only [z1b hle hx]; exact h
   ·cases h
  ·cases h
 case indexAddr t x i =>
  split at h
  ·rename_i hx hy; simp only [z1b hle hx,z1b hle hy]
   split at h
   ·exact h
   ·exact z59 hle (fun t x h=>h) h
   ·split at h
    ·rename_i hb; rw [hle.rows _ _ hb]; exact h
    ·cases h
   ·split at h
    ·rename_i hb; rw [hle.bx _ _ hb]; exact h
    ·cases h
   ·cases h
  ·cases h
 case index t x i =>
  cases hz:E.isStr t <;> rw [hz] at h
  ·cases h
  ·simp only [Bool.not_true,cond_false] at h ⊢
   split at h
   ·rename_i hx hy; simp only [z1b hle hx,z1b hle hy]; exact h
   ·cases h
 case extract x i =>
  split at h
  ·rename_i hx; simp only [z1b hle hx]; exact h
  ·cases h
 case call c =>
  split at h
  ·split at h
   ·split at h
    ·rename_i hx; simp only [z1b hle hx]
     exact z59 hle (fun t x h=>h) h
    ·cases h
   ·cases h
  ·split at h
   ·rename_i hx; simp only [z84 hle hx]; exact h
   ·cases h
  ·split at h
   ·rename_i hx; simp only [z84 hle hx]; exact h
   ·cases h
  ·split at h
   ·rename_i hx hy; simp only [z1b hle hx,z84 hle hy]
    cases hb:(List.all _ SV.cap1) <;> rw [hb] at h
    ·cases h
    ·exact zex hle (fun l h=>h) h
   ·rename_i hx hy; simp only [z1b hle hx,z84 hle hy]
    cases hb:(List.all _ SVal.cap1) <;> rw [hb] at h
    ·cases h
    ·exact zex hle (fun l h=>h) h
   ·rename_i hx hy; simp only [z1b hle hx,z84 hle hy]
    exact zex hle (fun l h=>h) h
   ·cases h
  ·cases h
 all_goals (first | exact h | cases h)
end

abbrev Loc:Type:=(t:Ty)×L t
structure Map where
 loc:Nat→Loc
 blk:Nat→Nat
 bn:Nat→Nat
 bw:Nat→Nat

def zr:(t:Ty)→L t→List Step→Option Loc
 | .sl e t,x,p=>match p with
  | []=>some ⟨.sl e t,x⟩
  | .ix n::p=>(x.2.2[n]?).bind fun y=>zr t y p
  | .f _::_=>none
  | .u::_=>none
 | .st t,x,p=>match p with
  | []=>some ⟨.st t,x⟩
  | .u::p=>zr t x p
  | s::p=>zr t x (s::p)
 | .pr a b,x,p=>match p with
  | []=>some ⟨.pr a b,x⟩
  | .f false::p=>zr a x.1 p
  | .f true::p=>zr b x.2 p
  | .ix _::_=>none
  | .u::_=>none
 | .int k,x,p=>match p with | []=>some ⟨.int k,x⟩ | _::_=>none
 | .bool,x,p=>match p with | []=>some ⟨.bool,x⟩ | _::_=>none
 | .str,x,p=>match p with | []=>some ⟨.str,x⟩ | _::_=>none
 | .un,x,p=>match p with | []=>some ⟨.un,x⟩ | _::_=>none
 | .rd t,x,p=>match p with | []=>some ⟨.rd t,x⟩ | _::_=>none
def zcs (x:Loc):SVal:=⟨x.1,erase x.1 x.2⟩

theorem z45:∀ (t:Ty) (x:L t) (p:List Step),sub t (erase t x) p=(zr t x p).map zcs
 | .sl e t,x,p=>by
  match p with
  | []=>rfl
  | .f _::_=>rfl
  | .u::_=>rfl
  | .ix n::p =>
   show ((x.2.2.map (erase t))[n]?).bind _=((x.2.2[n]?).bind _).map _
   rw [List.getElem?_map,Option.bind_map,Option.map_bind]
   congr 1
   funext y
   exact z45 t y p
 | .st t,x,p=>by
  match p with
  | []=>rfl
  | .u::p=>exact z45 t x p
  | .ix n::p=>exact z45 t x (.ix n::p)
  | .f b::p=>exact z45 t x (.f b::p)
 | .pr a b,x,p=>by
  match p with
  | []=>rfl
  | .ix _::_=>rfl
  | .u::_=>rfl
  | .f false::p=>exact z45 a x.1 p
  | .f true::p=>exact z45 b x.2 p
 | .int _,x,p=>by match p with | []=>rfl | _::_=>rfl
 | .bool,x,p=>by match p with | []=>rfl | _::_=>rfl
 | .str,x,p=>by match p with | []=>rfl | _::_=>rfl
 | .un,x,p=>by match p with | []=>rfl | _::_=>rfl
 | .rd _,x,p=>by match p with | []=>rfl | _::_=>rfl

theorem subL_holds {F:Frz} {w:World}:∀ {t:Ty} {x:L t} {p:List Step} {y:Loc},zr t x p=some y→holds F w t x→holds F w y.1 y.2∧∀ k∈z6 y.1 y.2,k∈z6 t x
 | .sl e t,x,p,y,h,hx=>by
  match p with
  | []=>cases h; exact ⟨hx,fun _ h=>h⟩
  | .f _::_=>cases h
  | .u::_=>cases h
  | .ix n::p =>
   obtain ⟨z,hz,h⟩:=Option.bind_eq_some_iff.1 h
   have hm:=List.mem_of_getElem? hz
   obtain ⟨h1,h2⟩:=subL_holds h (hx.2 z hm)
   refine ⟨h1,fun k hk=>?_⟩
   simp only [z6,List.mem_append,List.mem_flatMap]
   exact .inr ⟨z,hm,h2 k hk⟩
 | .st t,x,p,y,h,hx=>by
  match p with
  | []=>cases h; exact ⟨hx,fun _ h=>h⟩
  | .u::p=>exact subL_holds (t:=t) (x:=x) (p:=p) h hx
  | .ix n::p=>exact subL_holds (t:=t) (x:=x) (p:=.ix n::p) h hx
  | .f b::p=>exact subL_holds (t:=t) (x:=x) (p:=.f b::p) h hx
 | .pr a b,x,p,y,h,hx=>by
  match p with
  | []=>cases h; exact ⟨hx,fun _ h=>h⟩
  | .ix _::_=>cases h
  | .u::_=>cases h
  | .f false::p =>
   obtain ⟨h1,h2⟩:=subL_holds (t:=a) (x:=x.1) (p:=p) h hx.1
   exact ⟨h1,fun k hk=>by simp [z6,h2 k hk]⟩
  | .f true::p =>
   obtain ⟨h1,h2⟩:=subL_holds (t:=b) (x:=x.2) (p:=p) h hx.2
   exact ⟨h1,fun k hk=>by simp [z6,h2 k hk]⟩
 | .int _,x,p,y,h,hx=>by match p with | []=>cases h; exact ⟨hx,fun _ h=>h⟩ | _::_=>cases h
 | .bool,x,p,y,h,hx=>by match p with | []=>cases h; exact ⟨hx,fun _ h=>h⟩ | _::_=>cases h
 | .str,x,p,y,h,hx=>by match p with | []=>cases h; exact ⟨hx,fun _ h=>h⟩ | _::_=>cases h
 | .un,x,p,y,h,hx=>by match p with | []=>cases h; exact ⟨hx,fun _ h=>h⟩ | _::_=>cases h
 | .rd _,x,p,y,h,hx=>by match p with | []=>cases h; exact ⟨hx,fun _ h=>h⟩ | _::_=>cases h

theorem z63:∀ (t:Ty) (x:L t) (p q:List Step),zr t x (p++q)=(zr t x p).bind fun y=>zr y.1 y.2 q
 | .sl e t,x,p,q=>by
  match p with
  | []=>rfl
  | .f _::_=>rfl
  | .u::_=>rfl
  | .ix n::p =>
   show (x.2.2[n]?).bind _=((x.2.2[n]?).bind _).bind _
   rw [Option.bind_assoc]
   congr 1
   funext y
   exact z63 t y p q
 | .st t,x,p,q=>by
  match p with
  | []=>rfl
  | .u::p=>exact z63 t x p q
  | .ix n::p=>exact z63 t x (.ix n::p) q
  | .f b::p=>exact z63 t x (.f b::p) q
 | .pr a b,x,p,q=>by
  match p with
  | []=>rfl
  | .ix _::_=>rfl
  | .u::_=>rfl
  | .f false::p=>exact z63 a x.1 p q
  | .f true::p=>exact z63 b x.2 p q
 | .int _,x,p,q=>by match p with | []=>rfl | _::_=>rfl
 | .bool,x,p,q=>by match p with | []=>rfl | _::_=>rfl
 | .str,x,p,q=>by match p with | []=>rfl | _::_=>rfl
 | .un,x,p,q=>by match p with | []=>rfl | _::_=>rfl
 | .rd _,x,p,q=>by match p with | []=>rfl | _::_=>rfl

theorem zct:∀ t:Ty,t.offP []=0
 | .st t=>zct t
 | .pr _ _=>rfl
 | .int _=>rfl
 | .bool=>rfl
 | .str=>rfl
 | .sl _ _=>rfl
 | .ptr _=>rfl
 | .un=>rfl
 | .fn _ _=>rfl
 | .fs _=>rfl
 | .rd _=>rfl
theorem zcu:∀ (t:Ty) (x:L t) (f:List Bool) (y:Loc),zr t x (f.map z3i)=some y→∃ a c,z8 t x=a++z8 y.1 y.2++c∧a.length=t.offP f
 | .sl e t,x,f,y,h=>by
  match f with
  | []=>cases h; exact ⟨[],[],by simp,rfl⟩
  | _::_=>cases h
 | .st t,x,f,y,h=>by
  match f with
  | []=>cases h; exact ⟨[],[],by simp,(zct (.st t)).symm⟩
  | s::p=>exact zcu t x (s::p) y h
 | .pr a b,x,f,y,h=>by
  match f with
  | []=>cases h; exact ⟨[],[],by simp,rfl⟩
  | false::f =>
   obtain ⟨p,q,h1,h2⟩:=zcu a x.1 f y h
   exact ⟨p,q++z8 b x.2,by simp [z8,h1],h2⟩
  | true::f =>
   obtain ⟨p,q,h1,h2⟩:=zcu b x.2 f y h
   exact ⟨z8 a x.1++p,q,by simp [z8,h1],by rw [List.length_append,h2,z1s]; rfl⟩
 | .int _,x,f,y,h=>by match f with | []=>cases h; exact ⟨[],[],by simp,rfl⟩ | _::_=>cases h
 | .bool,x,f,y,h=>by match f with | []=>cases h; exact ⟨[],[],by simp,rfl⟩ | _::_=>cases h
 | .str,x,f,y,h=>by match f with | []=>cases h; exact ⟨[],[],by simp,rfl⟩ | _::_=>cases h
 | .un,x,f,y,h=>by match f with | []=>cases h; exact ⟨[],[],by simp,rfl⟩ | _::_=>cases h
 | .rd _,x,f,y,h=>by match f with | []=>cases h; exact ⟨[],[],by simp,rfl⟩ | _::_=>cases h

def za (w0:World) (ok:Nat→Prop) (M:Map):SV→List Value→Prop
 | .val t x,cs=>Rd w0 ok t x cs
 | .ref i p,cs=>∃ e t l,zr (M.loc i).1 (M.loc i).2 p=some ⟨.sl e t,l⟩∧cs=z8 (.sl e t) l
 | .vw i lo n,cs=>∃ e t l,M.loc i=⟨.sl e t,l⟩∧lo+n≤l.2.2.length∧∃ A c,cs=[.slice A n c]∧c+lo=l.2.1∧(0<n∨lo=0→A=l.1.map fun g=>⟨g,lo*t.sz,none⟩)
 | .ls i,cs=>cs=[.slice (some ⟨M.blk i,0,none⟩) (M.bn i) (M.bn i)]
 | .st s,cs=>za w0 ok M s cs
 | .pr a b,cs=>∃ c1 c2,cs=c1++c2∧za w0 ok M a c1∧za w0 ok M b c2
 | .bp i _ o,cs=>cs=[.pointer (some ⟨M.blk i,o,none⟩)]
 | .ep i p n _ o,cs=>∃ e t l g,zr (M.loc i).1 (M.loc i).2 p=some ⟨.sl e t,l⟩∧l.1=some g∧n<l.2.2.length∧cs=[.pointer (some ⟨g,n*t.sz+o,none⟩)]
 | .lp i n,cs=>n<M.bn i∧cs=[.pointer (some ⟨M.blk i,n*M.bw i,none⟩)]
 | .clo g c,cs=>∃ caps:Array Value,cs=[.func (.func g) #[] caps]∧za w0 ok M c caps.toList
 | .no,cs=>cs=[]
 | .er b,cs=>∃ v,cs=[v]∧(b=true→∃ t u,v=.iface t u)∧(b=false→v=.nilIface)
 | .un,cs=>∃ v:Value,cs=[v]∧v.oneCell'=true
 | _,_=>False
def z1e (w0:World) (ok:Nat→Prop) (M:Map):SV→List Value→Prop
 | .nl,cs=>cs=[]
 | .cns a b,cs=>∃ c1 c2,cs=c1++c2∧za w0 ok M a c1∧z1e w0 ok M b c2
 | s,cs=>za w0 ok M s cs
def z2d (w0:World) (ok:Nat→Prop) (M:Map):SV→List Value→Prop
 | .nl,vs=>vs=[]
 | .cns a b,vs=>∃ v vs',vs=v::vs'∧(∃ cs,za w0 ok M a cs∧((a.isSt=true∧v=.agg cs.toArray)∨(a.isSt=false∧cs=[v])))∧z2d w0 ok M b vs'
 | _,_=>False
def z2h (s:SV) (v:Value) (cs:List Value):Prop:=(s.isSt=true∧v=.agg cs.toArray)∨(s.isSt=false∧cs=[v])
def zi (w0:World) (ok:Nat→Prop) (M:Map):SV→Value→Prop
 | .un,_=>True
 | .tup s,v=>∃ vs,v=.tuple vs∧z2d w0 ok M s vs.toList
 | s,v=>∃ cs,za w0 ok M s cs∧z2h s v cs

structure Based (w0:World) (ok O:Nat→Prop) (w1:World) (ok1 O1:Nat→Prop):Prop where
 kept:Kept O w0 w1
 inc:∀ k,ok k→ok1 k
 lt:∀ k,ok k→k<w0.heap.size∧¬ O k
 own:∀ k,O1 k→O k∨w0.heap.size≤k
 new:∀ k,ok1 k→ok k∨O k∨w0.heap.size≤k
theorem Based.trans {w0 w1 w2:World} {ok O ok1 O1 ok2 O2:Nat→Prop} (h:Based w0 ok O w1 ok1 O1) (k:Based w1 ok1 O1 w2 ok2 O2):Based w0 ok O w2 ok2 O2 where
 kept:=h.kept.trans k.kept fun i hi ho=>(h.own i ho).elim id fun hl=>absurd hi (Nat.not_lt.2 hl)
 inc:=fun i hi=>k.inc i (h.inc i hi)
 lt:=h.lt
 own:=fun i hi=>(k.own i hi).elim (h.own i) fun hl=>.inr (Nat.le_trans h.kept.size hl)
 new:=fun i hi=>(k.new i hi).elim (h.new i) fun ho=>.inr (ho.elim (h.own i) fun hl=>.inr (Nat.le_trans h.kept.size hl))
theorem Based.rd {w0 w1:World} {ok O ok1 O1:Nat→Prop} (h:Based w0 ok O w1 ok1 O1) {t:Ty} {x:t.T} {cs:List Value} (hr:Rd w0 ok t x cs):Rd w1 ok1 t x cs :=
 (hr.move fun k hk=>h.kept.block k (h.lt k hk).1 (h.lt k hk).2).mono h.inc
def z2i (b:Bool) (w0:World) (ok O:Nat→Prop) (w1:World) (ok1 O1:Nat→Prop):Prop:=(w1=w0∧ok1=ok∧O1=O)∨(b=true∧Based w0 ok O w1 ok1 O1)
abbrev Chg (E:Env) (w0:World) (ok O:Nat→Prop) (w1:World) (ok1 O1:Nat→Prop):Prop:=z2i E.rdm w0 ok O w1 ok1 O1
theorem z2i.refl {b:Bool} {w0:World} {ok O:Nat→Prop}:z2i b w0 ok O w0 ok O:=.inl ⟨rfl,rfl,rfl⟩
theorem z2i.trans {b:Bool} {w0 w1 w2:World} {ok O ok1 O1 ok2 O2:Nat→Prop} (h:z2i b w0 ok O w1 ok1 O1) (k:z2i b w1 ok1 O1 w2 ok2 O2):z2i b w0 ok O w2 ok2 O2:=by
 rcases h with ⟨rfl,rfl,rfl⟩ | ⟨e,h⟩
 ·exact k
 ·rcases k with ⟨rfl,rfl,rfl⟩ | ⟨_,k⟩
  ·exact .inr ⟨e,h⟩
  ·exact .inr ⟨e,h.trans k⟩
theorem z2i.kept {b:Bool} {w0 w1 w:World} {ok O ok1 O1:Nat→Prop} (h:z2i b w0 ok O w1 ok1 O1) (k:Kept O1 w1 w):Kept O w0 w:=by
 rcases h with ⟨rfl,rfl,rfl⟩ | ⟨e,h⟩
 ·exact k
 ·exact h.kept.trans k fun i hi ho=>(h.own i ho).elim id fun hl=>absurd hi (Nat.not_lt.2 hl)
def Mov (w0:World) (O:Nat→Prop) (w1:World) (O1:Nat→Prop):Prop:=Kept O w0 w1∧∀ k,O1 k→O k∨w0.heap.size≤k
theorem Mov.refl {w0:World} {O:Nat→Prop}:Mov w0 O w0 O:=⟨.refl _ _,fun _ h=>.inl h⟩
theorem Mov.trans {w0 w1 w2:World} {O O1 O2:Nat→Prop} (h:Mov w0 O w1 O1) (k:Mov w1 O1 w2 O2):Mov w0 O w2 O2 :=
 ⟨h.1.trans k.1 fun i hi ho=>(h.2 i ho).elim id fun hl=>absurd hi (Nat.not_lt.2 hl),fun i hi=>(k.2 i hi).elim (h.2 i) fun hl=>.inr (Nat.le_trans h.1.size hl)⟩
theorem z2i.mov {b:Bool} {w0 w1:World} {ok O ok1 O1:Nat→Prop} (h:z2i b w0 ok O w1 ok1 O1):Mov w0 O w1 O1:=by
 rcases h with ⟨rfl,rfl,rfl⟩ | ⟨e,h⟩
 ·exact .refl
 ·exact ⟨h.kept,h.own⟩
theorem z2i.own {b:Bool} {w0 w1:World} {ok O ok1 O1:Nat→Prop} (h:z2i b w0 ok O w1 ok1 O1) {k:Nat} (hk:O1 k):O k∨w0.heap.size≤k:=by
 rcases h with ⟨rfl,rfl,rfl⟩ | ⟨e,h⟩
 ·exact .inl hk
 ·exact h.own k hk

structure Live (σ:St) (s:SV):Prop where
 rows:∀ i∈s.roots,∃ r,lk σ.rows i=some r
 boxes:∀ i∈s.boxes,∃ b,lk σ.bx i=some b

structure Rep (E:Env) (w0:World) (ok O:Nat→Prop) (σ:St) (tm:Array Value) (w:World) (M:Map):Prop where
 slots:∀ s v,lk σ.sl s=some v→∃ u,tm[s]?=some u∧zi w0 ok M v u
 rows:∀ i r,lk σ.rows i=some r→∃ l,M.loc i=⟨.sl r.e r.t,l⟩∧erase (.sl r.e r.t) l=r.xs∧holds (Rd w0 ok) w (.sl r.e r.t) l∧(z6 (.sl r.e r.t) l).Nodup∧(r.z=false→plain w (.sl r.e r.t) l)
 boxes:∀ i b,lk σ.bx i=some b→∃ cs,z1e w0 ok M b.c cs∧w.heap[M.blk i]?=some (.cells cs.toArray b.ty (0,0)) ∧
  (b.c.isCh=true→M.bn i=b.c.count∧M.bw i=(E.tyOf b.ty).sz∧b.c.count≤16777216)
 rr:∀ i j,i≠j→(∃ r,lk σ.rows i=some r)→(∃ r,lk σ.rows j=some r)→∀ k∈z6 (M.loc i).1 (M.loc i).2,k∉z6 (M.loc j).1 (M.loc j).2
 bb:∀ i j,i≠j→(∃ b,lk σ.bx i=some b)→(∃ b,lk σ.bx j=some b)→M.blk i≠M.blk j
 rb:∀ i j,(∃ r,lk σ.rows i=some r)→(∃ b,lk σ.bx j=some b)→M.blk j∉z6 (M.loc i).1 (M.loc i).2
 ownR:∀ i,(∃ r,lk σ.rows i=some r)→∀ k∈z6 (M.loc i).1 (M.loc i).2,¬ ok k∧(O k∨w0.heap.size≤k)
 ownB:∀ i,(∃ b,lk σ.bx i=some b)→¬ ok (M.blk i)∧(O (M.blk i)∨w0.heap.size≤M.blk i)
 okB:∀ k,ok k→k<w0.heap.size∧¬ O k
 liveS:∀ s v,lk σ.sl s=some v→Live σ v
 liveB:∀ i b,lk σ.bx i=some b→Live σ b.c
 kept:Kept O w0 w
 pin:∀ i,PIN≤i→(∃ r,lk σ.rows i=some r)→z8 (M.loc i).1 (M.loc i).2=[E.pins i]
 pinB:∀ i,PIN≤i→(∃ b,lk σ.bx i=some b)→M.blk i=E.pinB i

section
variable {E : Env} {w0 : World} {ok O : Nat → Prop} {σ : St} {tm : Array Value} {w : World} {M : Map}

theorem za.len:∀ {s:SV} {cs:List Value},za w0 ok M s cs→cs.length=s.w
 | .val t x,cs,h=>Rd.len (t:=t) (x:=x) h
 | .ref i p,cs,h=>by obtain ⟨e,t,l,_,rfl⟩:=h; rfl
 | .vw i lo n,cs,h=>by obtain ⟨e,t,l,_,_,A,c,rfl,_⟩:=h; rfl
 | .ls i,cs,h=>by simp only [za] at h; subst h; rfl
 | .st s,cs,h=>za.len (s:=s) h
 | .pr a b,cs,h=>by obtain ⟨c1,c2,rfl,h1,h2⟩:=h; rw [List.length_append,za.len h1,za.len h2]; rfl
 | .bp i p o,cs,h=>by simp only [za] at h; subst h; rfl
 | .ep i p n f o,cs,h=>by obtain ⟨e,t,l,g,_,_,_,rfl⟩:=h; rfl
 | .lp i n,cs,h=>by obtain ⟨_,rfl⟩:=h; rfl
 | .clo g c,cs,h=>by obtain ⟨caps,rfl,_⟩:=h; rfl
 | .no,cs,h=>by simp only [za] at h; subst h; rfl
 | .er _,cs,h=>by obtain ⟨v,rfl,_⟩:=h; rfl
 | .tup _,_,h=>h.elim
 | .cns _ _,_,h=>h.elim
 | .nl,_,h=>h.elim
 | .un,_,h=>by obtain ⟨v,rfl,_⟩:=h; rfl

theorem zlr {s l r:SV} {cs:List Value} (h:za w0 ok M s cs) (hl:s.half false=some l) (hr:s.half true=some r):∃ c1 c2,cs=c1++c2∧za w0 ok M l c1∧za w0 ok M r c2:=by
 match s,hl,hr with
 | .val (.pr a b) x,hl,hr=>cases hl; cases hr; exact h
 | .val (.st (.pr a b)) x,hl,hr=>cases hl; cases hr; exact h
 | .pr a b,hl,hr=>cases hl; cases hr; exact h
 | .st (.pr a b),hl,hr=>cases hl; cases hr; exact h
theorem zls {s r:SV} {b:Bool} (h:s.half b=some r):∃ l r',s.half false=some l∧s.half true=some r'∧r=(bif b then r' else l):=by
 match s,b,h with
 | .val (.pr a b) x,false,h=>cases h; exact ⟨_,_,rfl,rfl,rfl⟩
 | .val (.pr a b) x,true,h=>cases h; exact ⟨_,_,rfl,rfl,rfl⟩
 | .val (.st (.pr a b)) x,false,h=>cases h; exact ⟨_,_,rfl,rfl,rfl⟩
 | .val (.st (.pr a b)) x,true,h=>cases h; exact ⟨_,_,rfl,rfl,rfl⟩
 | .pr a b,false,h=>cases h; exact ⟨_,_,rfl,rfl,rfl⟩
 | .pr a b,true,h=>cases h; exact ⟨_,_,rfl,rfl,rfl⟩
 | .st (.pr a b),false,h=>cases h; exact ⟨_,_,rfl,rfl,rfl⟩
 | .st (.pr a b),true,h=>cases h; exact ⟨_,_,rfl,rfl,rfl⟩

theorem z78:∀ {p:List Bool} {s r:SV} {cs:List Value},za w0 ok M s cs→s.part p=some r→∃ a c ds,cs=a++ds++c∧a.length=s.offP p∧za w0 ok M r ds
 | [],s,r,cs,h,hp=>by cases hp; exact ⟨[],[],cs,by simp,by cases s <;> rfl,h⟩
 | b::p,s,r,cs,h,hp=>by
  simp only [SV.part] at hp
  split at hp
  ·rename_i z hz
   obtain ⟨l,r',h1,h2,rfl⟩:=zls hz
   obtain ⟨c1,c2,rfl,hl,hr⟩:=zlr h h1 h2
   cases b with
   | false =>
    obtain ⟨a,c,ds,rfl,e,hd⟩:=z78 hl hp
    exact ⟨a,c++c2,ds,by simp,by simp only [SV.offP,h1,h2]; exact e,hd⟩
   | true =>
    obtain ⟨a,c,ds,rfl,e,hd⟩:=z78 hr hp
    exact ⟨c1++a,c,ds,by simp,by simp only [SV.offP,h1,h2,List.length_append,za.len hl]; rw [e],hd⟩
  ·cases hp
theorem zlt {s:SV} {cs:List Value} (h:za w0 ok M s cs):za w0 ok M s.inside cs:=by
 match s with
 | .val (.st t) x=>exact h
 | .st s=>exact h
 | .val (.int _) _=>exact h
 | .val .bool _=>exact h
 | .val .str _=>exact h
 | .val (.sl _ _) _=>exact h
 | .val (.pr _ _) _=>exact h
 | .val (.ptr _) _=>exact h
 | .val .un _=>exact h
 | .val (.fn _ _) _=>exact h
 | .val (.fs _) _=>exact h
 | .val (.rd _) _=>exact h
 | .ref _ _=>exact h
 | .vw _ _ _=>exact h
 | .ls _=>exact h
 | .pr _ _=>exact h
 | .bp _ _ _=>exact h
 | .ep _ _ _ _ _=>exact h
 | .lp _ _=>exact h
 | .clo _ _=>exact h
 | .no=>exact h
 | .er _=>exact h
 | .un=>exact h
theorem zih {t:Ty}:∀ {s:SV} {cs:List Value},za w0 ok M s cs→za w0 ok M (s.fit t) cs
 | .st s,cs,h=>by
  simp only [SV.fit]
  cases t.isSt
  ·exact zih (s:=s) h
  ·exact h
 | .val (.st u) x,cs,h=>by
  simp only [SV.fit]
  cases t.isSt
  ·exact h
  ·exact h
 | .val (.int _) _,_,h=>h
 | .val .bool _,_,h=>h
 | .val .str _,_,h=>h
 | .val (.sl _ _) _,_,h=>h
 | .val (.pr _ _) _,_,h=>h
 | .val (.ptr _) _,_,h=>h
 | .val .un _,_,h=>h
 | .val (.fn _ _) _,_,h=>h
 | .val (.fs _) _,_,h=>h
 | .val (.rd _) _,_,h=>h
 | .ref _ _,_,h=>h
 | .vw _ _ _,_,h=>h
 | .ls _,_,h=>h
 | .pr _ _,_,h=>h
 | .bp _ _ _,_,h=>h
 | .ep _ _ _ _ _,_,h=>h
 | .lp _ _,_,h=>h
 | .clo _ _,_,h=>h
 | .no,_,h=>h
 | .er _,_,h=>h
 | .un,_,h=>h

theorem Rep.ok_kept (R:Rep E w0 ok O σ tm w M) {k:Nat} (h:ok k):w.heap[k]?=w0.heap[k]?:=by
 obtain ⟨h1,h2⟩:=R.okB k h
 exact R.kept.block k h1 h2
theorem Rep.rd (R:Rep E w0 ok O σ tm w M) {t:Ty} {x:t.T} {cs:List Value} (h:Rd w0 ok t x cs):Rd w ok t x cs:=h.move fun k hk=>R.ok_kept hk
theorem Rep.ok_lt (R:Rep E w0 ok O σ tm w M) {k:Nat} (h:ok k):k<w.heap.size:=Nat.lt_of_lt_of_le (R.okB k h).1 R.kept.size

end

theorem zn {α:Type} (k:Nat) (v:α) (l:List (Nat×α)) (n:Nat):lk ((k,v)::l) n=if k=n then some v else lk l n:=by
 simp only [lk]
 by_cases h:k=n
 ·subst h; simp
 ·have:Nat.beq k n=false:=by cases hb:Nat.beq k n with | false=>rfl | true=>exact absurd (Nat.eq_of_beq_eq_true hb) h
  simp [this,h]
theorem z2b {α:Type}:∀ (l m:List (Nat×α)) (n:Nat),lk (l++m) n=(lk l n).or (lk m n)
 | [],m,n=>by simp [lk]
 | (k,v)::l,m,n=>by
  rw [List.cons_append,zn,zn,z2b l m n]
  split <;> simp
theorem z13 {α:Type}:∀ {l:List (Nat×α)} {n:Nat} {v:α},lk l n=some v→(n,v)∈l
 | [],n,v,h=>by cases h
 | (k,u)::l,n,v,h=>by
  rw [zn] at h
  split at h
  ·rename_i e; cases h; subst e; simp
  ·exact List.mem_cons_of_mem _ (z13 h)
theorem zlu:∀ {l:List Nat},z4h l=true→l.Nodup
 | [],_=>List.nodup_nil
 | i::l,h=>by
  simp only [z4h,Bool.and_eq_true,Bool.not_eq_true',List.any_eq_false] at h
  refine List.nodup_cons.2 ⟨fun hm=>?_,zlu h.2⟩
  have:=h.1 i hm
  simp at this

section
variable {E : Env} {w0 : World} {ok O : Nat → Prop} {σ : St} {tm : Array Value} {w : World} {M : Map}

def Lt (w:World):Nat→Prop:=fun k=>k<w.heap.size

theorem zaq {s:SV} {cs:List Value} (h:z1e w0 ok M s cs) (hs:s.isCh=false):za w0 ok M s cs:=by
 cases s <;> first | exact h | cases hs
theorem zu {s:SV} {cs:List Value} (h:za w0 ok M s cs):z1e w0 ok M s cs:=by
 cases s <;> first | exact h | exact h.elim

theorem z2a.mid {w:World} {g b:Nat} {p ds q:List Value} (h:z2a w ⟨g,b,none⟩ (p++ds++q)):z2a w ⟨g,b+p.length,none⟩ ds:=by
 intro j u hu
 have hj:=(List.getElem?_eq_some_iff.1 hu).1
 have:=h (p.length+j) u (by rw [List.append_assoc,List.getElem?_append_right (by omega),show p.length+j-p.length=j by omega,List.getElem?_append_left hj]; exact hu)
 rw [z2v] at this ⊢
 rw [Nat.add_assoc]; exact this

theorem zar {w:World} {g:Nat} {cs:List Value} {e:TypeId} (h:w.heap[g]?=some (.cells cs.toArray e (0,0))):z2a w ⟨g,0,none⟩ cs:=by
 intro j u hu
 rw [z2v,cell_of_row w g _ _ e (0,0) h]
 simpa using hu

theorem zas {F:Frz} {w:World} {e:TypeId} {t:Ty} {l:L (.sl e t)} {g n:Nat} {y:L t} (h:holds F w (.sl e t) l) (hg:l.1=some g) (hn:l.2.2[n]?=some y):z2a w ⟨g,n*t.sz,none⟩ (z8 t y):=by
 obtain ⟨h1,_⟩:=h
 rw [hg] at h1
 obtain ⟨cur,fz,hc,hl,hm,hsz,htk,_⟩:=h1
 intro j u hu
 have hj:j<t.sz:=by have:=(List.getElem?_eq_some_iff.1 hu).1; rwa [z1s] at this
 have hi:n<l.2.2.length:=(List.getElem?_eq_some_iff.1 hn).1
 have hij:n*t.sz+j<l.2.2.length*t.sz:=by
  have:(n+1)*t.sz≤l.2.2.length*t.sz:=Nat.mul_le_mul_right _ hi
  rw [Nat.add_mul,Nat.one_mul] at this; omega
 rw [z2v,cell_of_row w g _ cur e fz hc]
 have e1:=zec t l.2.2 n y hn j hj
 rw [← htk,List.getElem?_take_of_lt hij,hu] at e1
 rw [← Array.getElem?_toList]
 exact e1

theorem z2y (t:Ty) (x:L t):zr t x []=some ⟨t,x⟩:=by cases t <;> first | rfl | exact x.elim

theorem zat {t e u} {x:L t} {p:List Step} {n:Nat} {l:L (.sl e u)} {q:List Step} (h:zr t x p=some ⟨.sl e u,l⟩):zr t x (p++.ix n::q)=(l.2.2[n]?).bind fun y=>zr u y q:=by
 rw [z63,h]
 rfl

theorem Rep.mem (R:Rep E w0 ok O σ tm w M) {k:Nat} (h:ok k):Lt w k:=R.ok_lt h
theorem Rep.hF (R:Rep E w0 ok O σ tm w M):∀ t x cs,Rd w0 ok t x cs→Rd w (Lt w) t x cs:=fun _ _ _ h=>(R.rd h).mono fun _ hk=>R.ok_lt hk

theorem zlv (t:Ty) (rc:SV→Option SVal) (rcC:{R:Type}→SV→((u:Ty)→u.T→Option R)→Option R) (hrc:∀ {R:Type} s (k:(u:Ty)→u.T→Option R),rcC s k=(rc s).bind fun v=>k v.t v.x)
  (ih:∀ a v c,rc a=some v→za w0 ok M a c→Rd w (Lt w) v.t v.x c):∀ (s:SV) (cs:List Value) (xs:List t.T),z1e w0 ok M s cs→lsC (fun s k=>rcC s k) t s some=some xs →
   xs.length=s.count∧s.isCh=true∧cs.length=xs.length*t.sz∧∀ i x,xs[i]?=some x→∃ ds,Rd w (Lt w) t x ds∧∀ j u,ds[j]?=some u→cs[i*t.sz+j]?=some u
 | .nl,cs,xs,h,hx=>by
  simp only [z1e] at h
  subst h
  cases hx
  exact ⟨rfl,rfl,by simp,by simp⟩
 | .cns a b,cs,xs,h,hx=>by
  obtain ⟨c1,c2,rfl,h1,h2⟩:=h
  simp only [lsC] at hx
  rw [hrc] at hx
  obtain ⟨v,hv,hx⟩:=Option.bind_eq_some_iff.1 hx
  unfold zf at hx
  split at hx
  ·rename_i he
   have hb:=z94 (fun s k=>rcC s k) (fun s k=>by rw [hrc,hrc s (fun t x=>some (SVal.mk t x)),Option.bind_assoc]; rfl) t b (fun zs=>some ((he▸v.x)::zs))
   have hx:=hb.symm.trans hx
   obtain ⟨zs,hz,hx⟩:=Option.bind_eq_some_iff.1 hx
   cases hx
   obtain ⟨e1,_,e2,e3⟩:=zlv t rc rcC hrc ih b c2 zs h2 hz
   have hr:=ih a v c1 hv h1
   obtain ⟨vt,vx⟩:=v
   dsimp only at he
   subst he
   have hl:c1.length=vt.sz:=Rd.len hr
   refine ⟨by simp [SV.count,e1],rfl,by rw [List.length_append,hl,e2,List.length_cons,Nat.add_mul,Nat.one_mul,Nat.add_comm],fun i x hi=>?_⟩
   cases i with
   | zero =>
    simp only [List.getElem?_cons_zero,Option.some.injEq] at hi
    subst hi
    refine ⟨c1,hr,fun j u hu=>?_⟩
    rw [Nat.zero_mul,Nat.zero_add,List.getElem?_append_left (List.getElem?_eq_some_iff.1 hu).1]
    exact hu
   | succ i =>
    simp only [List.getElem?_cons_succ] at hi
    obtain ⟨ds,hd,hc⟩:=e3 i x hi
    refine ⟨ds,hd,fun j u hu=>?_⟩
    rw [List.getElem?_append_right (by rw [hl,Nat.add_mul,Nat.one_mul]; omega),hl,Nat.add_mul,Nat.one_mul,show i*vt.sz+vt.sz+j-vt.sz=i*vt.sz+j by omega]
    exact hc j u hu
  ·cases hx
 | .val _ _,_,_,_,hx=>by cases hx
 | .ref _ _,_,_,_,hx=>by cases hx
 | .vw _ _ _,_,_,_,hx=>by cases hx
 | .ls _,_,_,_,hx=>by cases hx
 | .st _,_,_,_,hx=>by cases hx
 | .pr _ _,_,_,_,hx=>by cases hx
 | .bp _ _ _,_,_,_,hx=>by cases hx
 | .ep _ _ _ _ _,_,_,_,hx=>by cases hx
 | .lp _ _,_,_,_,hx=>by cases hx
 | .clo _ _,_,_,_,hx=>by cases hx
 | .tup _,_,_,_,hx=>by cases hx
 | .no,_,_,_,hx=>by cases hx
 | .er _,_,_,_,hx=>by cases hx
 | .un,_,_,_,hx=>by cases hx

theorem zup {F:Frz} {w:World} (hF:∀ t x cs,F t x cs→Rd w (Lt w) t x cs) {e:TypeId} {t:Ty} {l:L (.sl e t)} (hh:holds F w (.sl e t) l) {lo n c:Nat} {A:Option Addr} (hl:lo+n≤l.2.2.length) (hc:c+lo=l.2.1) (hA:0<n∨lo=0→A=l.1.map fun g=>⟨g,lo*t.sz,none⟩) :
  Rd w (Lt w) (.sl e t) (((erase (.sl e t) l).drop lo).take n) [.slice A n c]:=by
 have hlen:(((erase (.sl e t) l).drop lo).take n).length=n:=by
  simp only [erase,List.length_take,List.length_drop,List.length_map]; omega
 have hcap:l.2.2.length≤l.2.1:=by
  have h1:=hh.1
  cases hx:l.1 with
  | none=>rw [hx] at h1; simp [h1.1]
  | some b=>rw [hx] at h1; obtain ⟨cur,fz,_,h2,_⟩:=h1; exact h2
 refine ⟨A,c,by rw [hlen],by rw [hlen]; omega,fun hne=>?_⟩
 have hn:0<n:=by
  rcases Nat.eq_zero_or_pos n with h0 | h0
  ·subst h0; simp at hne
  ·exact h0
 cases hx:l.1 with
 | none=>have h1:=hh.1; rw [hx] at h1; rw [h1.1] at hl; simp at hl; omega
 | some b =>
  rw [hx] at hA
  have hb:b<w.heap.size:=z1d hh b (by simp [z6,hx])
  refine ⟨_,hA (.inl hn),hb,fun i x hi=>?_⟩
  have hin:i<n:=by have:=(List.getElem?_eq_some_iff.1 hi).1; omega
  rw [List.getElem?_take_of_lt hin,List.getElem?_drop] at hi
  simp only [erase,List.getElem?_map,Option.map_eq_some_iff] at hi
  obtain ⟨y,hy,rfl⟩:=hi
  have hm:=List.mem_of_getElem? hy
  refine ⟨z8 t y,z6f hF (fun k hk=>z1d (hh.2 y hm) k hk) (hh.2 y hm),?_⟩
  have:=zas hh hx hy
  rw [z2v,← Nat.add_mul]; exact this

theorem zuq {d:Nat} {s:SV} (h:s.isCh=true):res E σ d s=none:=by
 cases d with
 | zero=>rfl
 | succ d=>cases s with
  | nl=>rfl
  | cns a b=>rfl
  | _=>cases h
theorem z79 (R:Rep E w0 ok O σ tm w M):∀ (d:Nat) (s:SV) (v:SVal) (cs:List Value),res E σ d s=some v→za w0 ok M s cs→Rd w (Lt w) v.t v.x cs
 | 0,s,v,cs,h,hs=>by cases h
 | d+1,s,v,cs,h,hs=>by
  unfold res at h
  cases s with
  | val t x=>cases h; exact (R.rd hs).mono fun k hk=>R.ok_lt hk
  | ref i p =>
   simp only [zj] at h
   split at h
   ·rename_i r hr
    obtain ⟨l,hl,he,hh,hn,_⟩:=R.rows i r hr
    obtain ⟨e,t,l',h1,rfl⟩:=hs
    rw [hl] at h1
    rw [← he] at h
    have h2:=z45 (.sl r.e r.t) l p
    rw [h1] at h2
    have h3:sub (.sl r.e r.t) (erase (.sl r.e r.t) l) p=some v:=h
    rw [h3] at h2
    cases h2
    obtain ⟨h4,h5⟩:=subL_holds h1 hh
    exact z6f R.hF (fun k hk=>z1d h4 k hk) h4
   ·cases h
  | vw i lo n =>
   simp only [zj] at h
   split at h
   ·rename_i r hr
    obtain ⟨l,hl,he,hh,hn,_⟩:=R.rows i r hr
    obtain ⟨e,t,l',h1,h2,A,c,rfl,hc,hA⟩:=hs
    rw [hl] at h1
    cases h1
    cases h
    simp only [← he]
    exact zup R.hF hh h2 hc hA
   ·cases h
  | ls i =>
   simp only [zj] at h
   split at h
   ·rename_i b hb
    obtain ⟨cs',h1,h2,h3⟩:=R.boxes i b hb
    simp only [za] at hs
    subst hs
    have hb':=z94 (fun s k=>zj E σ d s k) (fun s k=>zy E σ d s k) (E.tyOf b.ty) b.c (fun xs=>some (SVal.mk (.sl b.ty (E.tyOf b.ty)) xs))
    have h':(lsC (fun s k=>zj E σ d s k) (E.tyOf b.ty) b.c fun xs=>some (SVal.mk (.sl b.ty (E.tyOf b.ty)) xs))=some v:=h
    rw [hb'] at h'
    obtain ⟨xs,hx,hv⟩:=Option.bind_eq_some_iff.1 h'
    cases hv
    obtain ⟨e1,e2,e3,e4⟩:=zlv (w:=w) (E.tyOf b.ty) (res E σ d) (fun s k=>zj E σ d s k) (fun s k=>zy E σ d s k) (fun a v c ha hc=>z79 R d a v c ha hc) b.c cs' xs h1 hx
    obtain ⟨e5,_⟩:=h3 e2
    refine ⟨_,_,by rw [e5,← e1],Nat.le_refl _,fun hne=>⟨_,rfl,?_,fun i x hi=>?_⟩⟩
    ·exact (Array.getElem?_eq_some_iff.1 h2).1
    ·obtain ⟨ds,hd,hc⟩:=e4 i x hi
     refine ⟨ds,hd,fun j u hu=>?_⟩
     rw [za9]
     exact zar h2 _ u (hc j u hu)
   ·cases h
  | st s =>
   simp only [zj] at h
   rw [zy] at h
   obtain ⟨u,hu,hv⟩:=Option.bind_eq_some_iff.1 h
   cases hv
   exact z79 R d s u cs hu hs
  | pr a b =>
   simp only [zj] at h
   rw [zy] at h
   obtain ⟨u,hu,h⟩:=Option.bind_eq_some_iff.1 h
   rw [zy] at h
   obtain ⟨z,hz,hv⟩:=Option.bind_eq_some_iff.1 h
   cases hv
   obtain ⟨c1,c2,rfl,h1,h2⟩:=hs
   exact ⟨c1,c2,rfl,z79 R d a u c1 hu h1,z79 R d b z c2 hz h2⟩
  | bp i p o =>
   simp only [zj] at h
   split at h
   ·rename_i b hb
    obtain ⟨cs',h1,h2,h3⟩:=R.boxes i b hb
    split at h
    ·rename_i s hp
     cases ho:Nat.beq (b.c.offP p) o <;> rw [ho] at h
     ·cases h
     ·simp only [cond_true] at h
      rw [zy] at h
      obtain ⟨u,hu,hv⟩:=Option.bind_eq_some_iff.1 h
      cases hv
      simp only [za] at hs
      subst hs
      have ho:=Nat.eq_of_beq_eq_true ho
      have hnc:b.c.isCh=false∨(s=b.c):=by
       cases hc:b.c with
       | nl=>right; rw [hc] at hp; cases p with | nil=>cases hp; rfl | cons x y=>cases hp
       | cns x y=>right; rw [hc] at hp; cases p with | nil=>cases hp; rfl | cons x y=>cases hp
       | _=>left; rfl
      rcases hnc with hnc | rfl
      ·obtain ⟨a,c,ds,rfl,e1,e2⟩:=z78 (zaq h1 hnc) hp
       refine ⟨_,ds,rfl,(Array.getElem?_eq_some_iff.1 h2).1,z79 R d s u ds hu e2,?_⟩
       have:=(zar h2).mid
       rw [e1,ho,Nat.zero_add] at this
       exact this
      ·cases hc:b.c.isCh with
       | false =>
        obtain ⟨a,c,ds,rfl,e1,e2⟩:=z78 (zaq h1 hc) hp
        refine ⟨_,ds,rfl,(Array.getElem?_eq_some_iff.1 h2).1,z79 R d _ u ds hu e2,?_⟩
        have:=(zar h2).mid
        rw [e1,ho,Nat.zero_add] at this
        exact this
       | true =>
        exfalso
        rw [zuq hc] at hu
        cases hu
    ·cases h
   ·cases h
  | ep i p n f o =>
   simp only [zj] at h
   split at h
   ·rename_i r hr
    obtain ⟨l,hl,he,hh,hn,_⟩:=R.rows i r hr
    obtain ⟨e,t,l',g,h1,hg,hlt,rfl⟩:=hs
    rw [hl] at h1
    rw [← he] at h
    rw [z2r] at h
    obtain ⟨u,hu,h⟩:=Option.bind_eq_some_iff.1 h
    cases ho:Nat.beq (u.t.offP f) o <;> rw [ho] at h
    ·cases h
    ·simp only [cond_true] at h
     rw [z2r] at h
     obtain ⟨z,hz,hv⟩:=Option.bind_eq_some_iff.1 h
     cases hv
     have ho:=Nat.eq_of_beq_eq_true ho
     have hy:l'.2.2[n]?=some l'.2.2[n]:=List.getElem?_eq_getElem hlt
     rw [z45,zat h1,hy,Option.bind_some,z2y] at hu
     cases hu
     have hz':sub t (erase t l'.2.2[n]) (f.map z3i)=some z:=hz
     rw [z45] at hz'
     obtain ⟨q,hq,rfl⟩:=Option.map_eq_some_iff.1 hz'
     obtain ⟨h4,h5⟩:=subL_holds h1 hh
     have hm:l'.2.2[n]∈l'.2.2:=List.getElem_mem hlt
     obtain ⟨h6,h7⟩:=subL_holds hq (h4.2 _ hm)
     obtain ⟨a,c,e1,e2⟩:=zcu t _ f q hq
     refine ⟨_,z8 q.1 q.2,rfl,?_,z6f R.hF (fun k hk=>z1d h6 k hk) h6,?_⟩
     ·exact z1d h4 g (by simp [z6,hg])
     ·have:=zas h4 hg hy
      rw [e1] at this
      have:=this.mid
      rw [e2] at this
      rw [show t.offP f=o from ho] at this
      exact this
   ·cases h
  | lp i n=>cases h
  | clo g c =>
   simp only [zj] at h
   rw [zy] at h
   obtain ⟨u,hu,hv⟩:=Option.bind_eq_some_iff.1 h
   cases hv
   obtain ⟨caps,rfl,h1⟩:=hs
   exact ⟨caps,rfl,z79 R d c u _ hu h1⟩
  | tup s=>cases h
  | cns a b=>cases h
  | nl=>cases h
  | no=>cases h; exact hs
  | er b=>cases h
  | un=>cases h
end

section
variable {E : Env} {w0 : World} {ok O : Nat → Prop} {σ : St} {tm : Array Value} {w : World} {M M' : Map}

structure Same (M M':Map) (s:SV):Prop where
 loc:∀ i∈s.roots,M'.loc i=M.loc i
 blk:∀ i∈s.boxes,M'.blk i=M.blk i∧M'.bn i=M.bn i∧M'.bw i=M.bw i

theorem z3k:∀ {s:SV} {cs:List Value},Same M M' s→za w0 ok M s cs→za w0 ok M' s cs
 | .val t x,cs,h,hs=>hs
 | .ref i p,cs,h,hs=>by
  have e:=h.loc i (by simp [SV.roots])
  simp only [za] at hs ⊢
  rw [e]; exact hs
 | .vw i lo n,cs,h,hs=>by
  have e:=h.loc i (by simp [SV.roots])
  simp only [za] at hs ⊢
  rw [e]; exact hs
 | .ls i,cs,h,hs=>by
  obtain ⟨e1,e2,e3⟩:=h.blk i (by simp [SV.boxes])
  simp only [za] at hs ⊢
  rw [e1,e2]; exact hs
 | .st s,cs,h,hs=>z3k (s:=s) ⟨h.loc,h.blk⟩ hs
 | .pr a b,cs,h,hs=>by
  obtain ⟨c1,c2,rfl,h1,h2⟩:=hs
  exact ⟨c1,c2,rfl,z3k ⟨fun i hi=>h.loc i (by simp [SV.roots,hi]),fun i hi=>h.blk i (by simp [SV.boxes,hi])⟩ h1,
   z3k ⟨fun i hi=>h.loc i (by simp [SV.roots,hi]),fun i hi=>h.blk i (by simp [SV.boxes,hi])⟩ h2⟩
 | .bp i p o,cs,h,hs=>by
  obtain ⟨e1,e2,e3⟩:=h.blk i (by simp [SV.boxes])
  simp only [za] at hs ⊢
  rw [e1]; exact hs
 | .ep i p n f o,cs,h,hs=>by
  have e:=h.loc i (by simp [SV.roots])
  simp only [za] at hs ⊢
  rw [e]; exact hs
 | .lp i n,cs,h,hs=>by
  obtain ⟨e1,e2,e3⟩:=h.blk i (by simp [SV.boxes])
  simp only [za] at hs ⊢
  rw [e1,e2,e3]; exact hs
 | .clo g c,cs,h,hs=>by
  obtain ⟨caps,rfl,h1⟩:=hs
  exact ⟨caps,rfl,z3k (s:=c) ⟨h.loc,h.blk⟩ h1⟩
 | .no,cs,h,hs=>hs
 | .er _,cs,h,hs=>hs
 | .tup _,_,_,h=>h.elim
 | .cns _ _,_,_,h=>h.elim
 | .nl,_,_,h=>h.elim
 | .un,_,_,h=>h
theorem Same.l {a b:SV} (h:Same M M' (.cns a b)):Same M M' a:=⟨fun i hi=>h.loc i (by simp [SV.roots,hi]),fun i hi=>h.blk i (by simp [SV.boxes,hi])⟩
theorem Same.r {a b:SV} (h:Same M M' (.cns a b)):Same M M' b:=⟨fun i hi=>h.loc i (by simp [SV.roots,hi]),fun i hi=>h.blk i (by simp [SV.boxes,hi])⟩
theorem zey:∀ {s:SV} {cs:List Value},Same M M' s→z1e w0 ok M s cs→z1e w0 ok M' s cs
 | .cns a b,cs,h,hs=>by
  obtain ⟨c1,c2,rfl,h1,h2⟩:=hs
  exact ⟨c1,c2,rfl,z3k h.l h1,zey h.r h2⟩
 | .nl,cs,h,hs=>hs
 | .val t x,cs,h,hs=>z3k (s:=.val t x) h hs
 | .ref _ _,cs,h,hs=>z3k (s:=.ref _ _) h hs
 | .vw _ _ _,cs,h,hs=>z3k (s:=.vw _ _ _) h hs
 | .ls _,cs,h,hs=>z3k (s:=.ls _) h hs
 | .st _,cs,h,hs=>z3k (s:=.st _) h hs
 | .pr _ _,cs,h,hs=>z3k (s:=.pr _ _) h hs
 | .bp _ _ _,cs,h,hs=>z3k (s:=.bp _ _ _) h hs
 | .ep _ _ _ _ _,cs,h,hs=>z3k (s:=.ep _ _ _ _ _) h hs
 | .lp _ _,cs,h,hs=>z3k (s:=.lp _ _) h hs
 | .clo _ _,cs,h,hs=>z3k (s:=.clo _ _) h hs
 | .no,cs,h,hs=>hs
 | .er _,cs,h,hs=>hs
 | .tup _,_,_,h=>h.elim
 | .un,_,_,h=>h
theorem zlw:∀ {s:SV} {vs:List Value},Same M M' s→z2d w0 ok M s vs→z2d w0 ok M' s vs
 | .cns a b,vs,h,hs=>by
  obtain ⟨v,vs',rfl,⟨cs,h1,h3⟩,h2⟩:=hs
  exact ⟨v,vs',rfl,⟨cs,z3k h.l h1,h3⟩,zlw h.r h2⟩
 | .nl,vs,h,hs=>hs
 | .val _ _,_,_,h=>h.elim
 | .ref _ _,_,_,h=>h.elim
 | .vw _ _ _,_,_,h=>h.elim
 | .ls _,_,_,h=>h.elim
 | .st _,_,_,h=>h.elim
 | .pr _ _,_,_,h=>h.elim
 | .bp _ _ _,_,_,h=>h.elim
 | .ep _ _ _ _ _,_,_,h=>h.elim
 | .lp _ _,_,_,h=>h.elim
 | .clo _ _,_,_,h=>h.elim
 | .no,_,_,h=>h.elim
 | .er _,_,_,h=>h.elim
 | .tup _,_,_,h=>h.elim
 | .un,_,_,h=>h.elim

theorem z34 {s:SV} {v:Value} (h:zi w0 ok M s v):s=.un∨(∃ c vs,s=.tup c∧v=.tuple vs∧z2d w0 ok M c vs.toList)∨∃ cs,za w0 ok M s cs∧z2h s v cs:=by
 cases s with
 | un=>exact .inl rfl
 | tup c=>obtain ⟨vs,h1,h2⟩:=h; exact .inr (.inl ⟨c,vs,rfl,h1,h2⟩)
 | _=>exact .inr (.inr h)
theorem z1m {s:SV} {v:Value} {cs:List Value} (h:za w0 ok M s cs) (hw:z2h s v cs):zi w0 ok M s v:=by
 cases s with
 | un=>trivial
 | tup c=>exact h.elim
 | _=>exact ⟨cs,h,hw⟩
theorem zii {s:SV} {v:Value} (h:Same M M' s) (hs:zi w0 ok M s v):zi w0 ok M' s v:=by
 rcases z34 hs with rfl | ⟨c,vs,rfl,rfl,h1⟩ | ⟨cs,h1,h2⟩
 ·trivial
 ·exact ⟨vs,rfl,zlw ⟨h.loc,h.blk⟩ h1⟩
 ·exact z1m (z3k h h1) h2

structure Ext (E:Env) (w0:World) (ok:Nat→Prop) (σ:St) (w:World) (M:Map) (s:SV) (nr:List (Nat×Row)) (nb:List (Nat×Bx)) (v:Value) (w':World) (M':Map):Prop where
 val:zi w0 ok M' s v
 kept:Kept (fun _=>False) w w'
 locO:∀ i,lk nr i=none→M'.loc i=M.loc i
 blkO:∀ i,lk nb i=none→M'.blk i=M.blk i∧M'.bn i=M.bn i∧M'.bw i=M.bw i
 rows:∀ i r,lk nr i=some r→∃ l,M'.loc i=⟨.sl r.e r.t,l⟩∧erase (.sl r.e r.t) l=r.xs∧holds (Rd w0 ok) w' (.sl r.e r.t) l∧(z6 (.sl r.e r.t) l).Nodup∧(r.z=false→plain w' (.sl r.e r.t) l)∧∀ k∈z6 (.sl r.e r.t) l,w.heap.size≤k
 rr:∀ i j,i≠j→(∃ r,lk nr i=some r)→(∃ r,lk nr j=some r)→∀ k∈z6 (M'.loc i).1 (M'.loc i).2,k∉z6 (M'.loc j).1 (M'.loc j).2
 boxes:∀ i b,lk nb i=some b→∃ cs,z1e w0 ok M' b.c cs∧w'.heap[M'.blk i]?=some (.cells cs.toArray b.ty (0,0))∧(b.c.isCh=true→M'.bn i=b.c.count∧M'.bw i=(E.tyOf b.ty).sz∧b.c.count≤16777216)∧w.heap.size≤M'.blk i
 bb:∀ i j,(∃ b,lk nb i=some b)→(∃ b,lk nb j=some b)→i=j
 rb:∀ i j,(∃ r,lk nr i=some r)→(∃ b,lk nb j=some b)→M'.blk j∉z6 (M'.loc i).1 (M'.loc i).2
 live:(∀ i∈s.roots,(∃ r,lk σ.rows i=some r)∨∃ r,lk nr i=some r)∧(∀ i∈s.boxes,(∃ r,lk σ.bx i=some r)∨∃ r,lk nb i=some r)
 liveB:∀ i b,lk nb i=some b→(∀ i∈b.c.roots,(∃ r,lk σ.rows i=some r)∨∃ r,lk nr i=some r)∧(∀ i∈b.c.boxes,(∃ r,lk σ.bx i=some r)∨∃ r,lk nb i=some r)

theorem zlx {α:Type}:∀ {l:List (Nat×α)} {n:Nat},(∀ v,(n,v)∉l)→lk l n=none
 | [],n,h=>rfl
 | (k,u)::l,n,h=>by
  rw [zn]
  split
  ·rename_i e; subst e; exact absurd (List.mem_cons_self) (h u)
  ·exact zlx fun v hv=>h v (List.mem_cons_of_mem _ hv)

theorem zez {d:Nat} {nr:List (Nat×Row)} {nb:List (Nat×Bx)} (h:σ.fresh d nr nb=true) {i:Nat} (hi:∃ r,lk nr i=some r):lk σ.rows i=none:=by
 obtain ⟨r,hr⟩:=hi
 simp only [St.fresh,Bool.and_eq_true,List.all_eq_true] at h
 have:=(h.1.1 _ (z13 hr)).2
 simp only [] at this
 split at this
 ·assumption
 ·cases this
theorem zur {d:Nat} {nr:List (Nat×Row)} {nb:List (Nat×Bx)} (h:σ.fresh d nr nb=true) {i:Nat} (hi:∃ r,lk nr i=some r):i<PIN:=by
 obtain ⟨r,hr⟩:=hi
 simp only [St.fresh,Bool.and_eq_true,List.all_eq_true] at h
 exact Nat.le_of_ble_eq_true (h.1.1 _ (z13 hr)).1.2
theorem zus {d:Nat} {nr:List (Nat×Row)} {nb:List (Nat×Bx)} (h:σ.fresh d nr nb=true) {i:Nat} (hi:∃ r,lk nb i=some r):i<PIN:=by
 obtain ⟨r,hr⟩:=hi
 simp only [St.fresh,Bool.and_eq_true] at h
 have h2:=h.2
 split at h2
 ·cases hr
 ·rename_i x
  simp only [Bool.and_eq_true] at h2
  rw [show ([x]:List (Nat×Bx))=[(x.1,x.2)] from rfl,zn] at hr
  split at hr
  ·rename_i e
   subst e
   exact Nat.le_of_ble_eq_true h2.1.2
  ·cases hr
 ·cases h2
theorem zau {d:Nat} {nr:List (Nat×Row)} {nb:List (Nat×Bx)} (h:σ.fresh d nr nb=true) {i:Nat} (hi:∃ r,lk nb i=some r):lk σ.bx i=none:=by
 obtain ⟨r,hr⟩:=hi
 simp only [St.fresh,Bool.and_eq_true] at h
 have h2:=h.2
 split at h2
 ·cases hr
 ·rename_i x
  simp only [Bool.and_eq_true] at h2
  have h3:=h2.2
  rw [show ([x]:List (Nat×Bx))=[(x.1,x.2)] from rfl,zn] at hr
  split at hr
  ·rename_i e
   subst e
   split at h3
   ·assumption
   ·cases h3
  ·cases hr
 ·cases h2

def z3l (tm:Array Value) (d:Option Tmp) (v:Value):Array Value:=match d with | some d=>tm.setIfInBounds d v | none=>tm
theorem z1j (a:Act) (d:Option Tmp) (v:Value):(a.put d v).tmps=z3l a.tmps d v:=by cases d <;> rfl
theorem z47 (a:Act) (d:Option Tmp) (v:Value):(a.put d v).defers=a.defers:=by cases d <;> rfl
def inB (d:Option Tmp) (tm:Array Value):Prop:=∀ x,d=some x→x<tm.size
theorem z3s (d:Option Tmp) (v:Value):(z3l tm d v).size=tm.size:=by cases d <;> simp [z3l]

theorem zly {P:SV→Value→Prop} {sl:List (Nat×SV)} {d:Option Tmp} {s:SV} {v:Value} (h:∀ k u,lk sl k=some u→∃ z,tm[k]?=some z∧P u z) (hs:P s v) (hb:inB d tm) :
  ∀ k u,lk (St.put ⟨sl,σ.rows,σ.bx⟩ d s).sl k=some u→∃ z,(z3l tm d v)[k]?=some z∧P u z:=by
 intro k u hk
 cases d with
 | none=>exact h k u hk
 | some d =>
  simp only [St.put,zn] at hk
  simp only [z3l]
  have hd:=hb d rfl
  split at hk
  ·rename_i e
   subst e
   cases hk
   exact ⟨v,by simp [hd],hs⟩
  ·rename_i e
   obtain ⟨z,hz,hp⟩:=h k u hk
   exact ⟨z,by rw [Array.getElem?_setIfInBounds_ne e]; exact hz,hp⟩
theorem z64 (d:Option Tmp) (s:SV):(σ.put d s).rows=σ.rows:=by cases d <;> rfl
theorem z5a (d:Option Tmp) (s:SV):(σ.put d s).bx=σ.bx:=by cases d <;> rfl
theorem zlz {d:Option Tmp} {s:SV} {k:Nat} {u:SV} (h:lk (σ.put d s).sl k=some u):u=s∨lk σ.sl k=some u:=by
 cases d with
 | none=>exact .inr h
 | some d =>
  simp only [St.put,zn] at h
  split at h
  ·cases h; exact .inl rfl
  ·exact .inr h

theorem Rep.add (R:Rep E w0 ok O σ tm w M) {d:Nat} {dst:Option Tmp} {s:SV} {nr:List (Nat×Row)} {nb:List (Nat×Bx)} {v:Value} {w':World} (hf:σ.fresh d nr nb=true)
  (X:Ext E w0 ok σ w M s nr nb v w' M') (hb:inB dst tm):Rep E w0 ok O ((σ.add nr nb).put dst s) (z3l tm dst v) w' M':=by
 have same:∀ u,Live σ u→Same M M' u:=fun u hu =>
  ⟨fun i hi=>X.locO i (by
   cases hn:lk nr i with
   | none=>rfl
   | some r=>obtain ⟨r',hr'⟩:=hu.rows i hi; rw [zez hf ⟨r,hn⟩] at hr'; cases hr'),
  fun i hi=>X.blkO i (by
   cases hn:lk nb i with
   | none=>rfl
   | some r=>obtain ⟨r',hr'⟩:=hu.boxes i hi; rw [zau hf ⟨r,hn⟩] at hr'; cases hr')⟩
 have locOld:∀ i,(∃ r,lk σ.rows i=some r)→M'.loc i=M.loc i:=fun i ⟨r,hr⟩=>X.locO i (by
  cases hn:lk nr i with
  | none=>rfl
  | some r'=>rw [zez hf ⟨r',hn⟩] at hr; cases hr)
 have blkOld:∀ i,(∃ r,lk σ.bx i=some r)→M'.blk i=M.blk i∧M'.bn i=M.bn i∧M'.bw i=M.bw i:=fun i ⟨r,hr⟩=>X.blkO i (by
  cases hn:lk nb i with
  | none=>rfl
  | some r'=>rw [zau hf ⟨r',hn⟩] at hr; cases hr)
 have rowsC:∀ i,(∃ r,lk (nr++σ.rows) i=some r)→(∃ r,lk nr i=some r)∨(lk nr i=none∧∃ r,lk σ.rows i=some r):=by
  rintro i ⟨r,hr⟩
  rw [z2b] at hr
  cases hn:lk nr i with
  | some r'=>exact .inl ⟨r',rfl⟩
  | none=>rw [hn] at hr; exact .inr ⟨rfl,r,hr⟩
 have boxC:∀ i,(∃ r,lk (nb++σ.bx) i=some r)→(∃ r,lk nb i=some r)∨(lk nb i=none∧∃ r,lk σ.bx i=some r):=by
  rintro i ⟨r,hr⟩
  rw [z2b] at hr
  cases hn:lk nb i with
  | some r'=>exact .inl ⟨r',rfl⟩
  | none=>rw [hn] at hr; exact .inr ⟨rfl,r,hr⟩
 have newGe:∀ i,(∃ r,lk nr i=some r)→∀ k∈z6 (M'.loc i).1 (M'.loc i).2,w.heap.size≤k:=by
  rintro i ⟨r,hr⟩ k hk
  obtain ⟨l,hl,_,_,_,_,h⟩:=X.rows i r hr
  rw [hl] at hk
  exact h k hk
 have oldLt:∀ i,(∃ r,lk σ.rows i=some r)→∀ k∈z6 (M.loc i).1 (M.loc i).2,k<w.heap.size:=by
  rintro i ⟨r,hr⟩ k hk
  obtain ⟨l,hl,_,h,_⟩:=R.rows i r hr
  rw [hl] at hk
  exact z1d h k hk
 have boxLt:∀ i,(∃ r,lk σ.bx i=some r)→M.blk i<w.heap.size:=by
  rintro i ⟨b,hb⟩
  obtain ⟨cs,_,h,_⟩:=R.boxes i b hb
  exact (Array.getElem?_eq_some_iff.1 h).1
 have boxGe:∀ i,(∃ r,lk nb i=some r)→w.heap.size≤M'.blk i:=by
  rintro i ⟨b,hb⟩
  obtain ⟨cs,_,_,_,h⟩:=X.boxes i b hb
  exact h
 have grow:∀ k,w.heap.size≤k→¬ ok k∧(O k∨w0.heap.size≤k):=fun k hk =>
  ⟨fun h=>by have:=R.ok_lt h; omega,.inr (Nat.le_trans R.kept.size hk)⟩
 have liveOf:∀ u:SV,((∀ i∈u.roots,(∃ r,lk σ.rows i=some r)∨∃ r,lk nr i=some r)∧(∀ i∈u.boxes,(∃ r,lk σ.bx i=some r)∨∃ r,lk nb i=some r))→Live ((σ.add nr nb).put dst s) u:=by
  rintro u ⟨h1,h2⟩
  refine ⟨fun i hi=>?_,fun i hi=>?_⟩
  ·rw [z64]
   show ∃ r,lk (nr++σ.rows) i=some r
   rw [z2b]
   cases hn:lk nr i with
   | some r=>exact ⟨r,rfl⟩
   | none =>
    rcases h1 i hi with h | ⟨r,hr⟩
    ·exact h
    ·rw [hn] at hr; cases hr
  ·rw [z5a]
   show ∃ r,lk (nb++σ.bx) i=some r
   rw [z2b]
   cases hn:lk nb i with
   | some r=>exact ⟨r,rfl⟩
   | none =>
    rcases h2 i hi with h | ⟨r,hr⟩
    ·exact h
    ·rw [hn] at hr; cases hr
 have liveOld:∀ u:SV,Live σ u→Live ((σ.add nr nb).put dst s) u:=fun u hu=>liveOf u ⟨fun i hi=>.inl (hu.rows i hi),fun i hi=>.inl (hu.boxes i hi)⟩
 constructor
 ·have:=zly (σ:=σ.add nr nb) (tm:=tm) (P:=zi w0 ok M') (sl:=σ.sl) (d:=dst) (s:=s) (v:=v) (fun k u hk=>by
   obtain ⟨z,hz,hp⟩:=R.slots k u hk
   exact ⟨z,hz,zii (same u (R.liveS k u hk)) hp⟩) X.val hb
  exact this
 ·intro i r hr
  rw [z64] at hr
  have hr':lk (nr++σ.rows) i=some r:=hr
  rw [z2b] at hr'
  cases hn:lk nr i with
  | some r' =>
   rw [hn] at hr'
   cases hr'
   obtain ⟨l,h1,h2,h3,h4,h5,_⟩:=X.rows i r hn
   exact ⟨l,h1,h2,h3,h4,h5⟩
  | none =>
   rw [hn] at hr'
   obtain ⟨l,h1,h2,h3,h4,h5⟩:=R.rows i r hr'
   refine ⟨l,(X.locO i hn).trans h1,h2,z1t (fun k hk=>X.kept.block k (z1d h3 k hk) (fun h=>h)) h3,h4,fun hz=>z1u (fun k hk=>X.kept.block k (z1d h3 k hk) (fun h=>h)) (h5 hz)⟩
 ·intro i b hb'
  rw [z5a] at hb'
  have hr':lk (nb++σ.bx) i=some b:=hb'
  rw [z2b] at hr'
  cases hn:lk nb i with
  | some r' =>
   rw [hn] at hr'
   cases hr'
   obtain ⟨cs,h1,h2,h3,_⟩:=X.boxes i b hn
   exact ⟨cs,h1,h2,h3⟩
  | none =>
   rw [hn] at hr'
   obtain ⟨cs,h1,h2,h3⟩:=R.boxes i b hr'
   obtain ⟨e1,e2,e3⟩:=X.blkO i hn
   refine ⟨cs,zey (same b.c (R.liveB i b hr')) h1,?_,fun h=>?_⟩
   ·rw [e1]
    exact (X.kept.block _ (Array.getElem?_eq_some_iff.1 h2).1 (fun h=>h)).trans h2
   ·rw [e2,e3]; exact h3 h
 ·intro i j hij hi hj k hk
  rw [z64] at hi hj
  rcases rowsC i hi with h1 | ⟨h0,h1⟩ <;> rcases rowsC j hj with h2 | ⟨h3,h2⟩
  ·exact X.rr i j hij h1 h2 k hk
  ·rw [locOld j h2]
   intro hk'
   have:=newGe i h1 k hk
   have:=oldLt j h2 k hk'
   omega
  ·rw [locOld i h1] at hk
   intro hk'
   have:=newGe j h2 k hk'
   have:=oldLt i h1 k hk
   omega
  ·rw [locOld i h1] at hk
   rw [locOld j h2]
   exact R.rr i j hij h1 h2 k hk
 ·intro i j hij hi hj
  rw [z5a] at hi hj
  rcases boxC i hi with h1 | ⟨h0,h1⟩ <;> rcases boxC j hj with h2 | ⟨h3,h2⟩
  ·exact absurd (X.bb i j h1 h2) hij
  ·rw [(blkOld j h2).1]
   have:=boxGe i h1
   have:=boxLt j h2
   omega
  ·rw [(blkOld i h1).1]
   have:=boxGe j h2
   have:=boxLt i h1
   omega
  ·rw [(blkOld i h1).1,(blkOld j h2).1]
   exact R.bb i j hij h1 h2
 ·intro i j hi hj hk
  rw [z64] at hi
  rw [z5a] at hj
  rcases rowsC i hi with h1 | ⟨h0,h1⟩ <;> rcases boxC j hj with h2 | ⟨h3,h2⟩
  ·exact X.rb i j h1 h2 hk
  ·rw [(blkOld j h2).1] at hk
   have:=newGe i h1 _ hk
   have:=boxLt j h2
   omega
  ·rw [locOld i h1] at hk
   have:=oldLt i h1 _ hk
   have:=boxGe j h2
   omega
  ·rw [locOld i h1,(blkOld j h2).1] at hk
   exact R.rb i j h1 h2 hk
 ·intro i hi k hk
  rw [z64] at hi
  rcases rowsC i hi with h1 | ⟨h0,h1⟩
  ·exact grow k (newGe i h1 k hk)
  ·rw [locOld i h1] at hk
   exact R.ownR i h1 k hk
 ·intro i hi
  rw [z5a] at hi
  rcases boxC i hi with h1 | ⟨h0,h1⟩
  ·exact grow _ (boxGe i h1)
  ·rw [(blkOld i h1).1]
   exact R.ownB i h1
 ·exact R.okB
 ·intro k u hk
  rcases zlz hk with rfl | h
  ·exact liveOf _ X.live
  ·exact liveOld u (R.liveS k u h)
 ·intro i b hb'
  rw [z5a] at hb'
  have hr':lk (nb++σ.bx) i=some b:=hb'
  rw [z2b] at hr'
  cases hn:lk nb i with
  | some r'=>rw [hn] at hr'; cases hr'; exact liveOf _ (X.liveB i b hn)
  | none=>rw [hn] at hr'; exact liveOld _ (R.liveB i b hr')
 ·exact R.kept.trans X.kept (fun _ _ h=>h.elim)
 ·intro i hi hr
  rw [z64] at hr
  rcases rowsC i hr with h1 | ⟨h0,h1⟩
  ·have:=zur hf h1; omega
  ·rw [locOld i h1]; exact R.pin i hi h1
 ·intro i hi hr
  rw [z5a] at hr
  rcases boxC i hr with h1 | ⟨h0,h1⟩
  ·have:=zus hf h1; omega
  ·rw [(blkOld i h1).1]; exact R.pinB i hi h1
end
end Go.Proofs.YtjbnebolfnjneaaGreatDoor.Ev
