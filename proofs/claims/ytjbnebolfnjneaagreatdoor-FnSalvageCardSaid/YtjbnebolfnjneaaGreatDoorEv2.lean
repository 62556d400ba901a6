/- Plain values for a program that runs on a machine: an evaluator of loaded code and the proof that it tells what the machine does (part 2 of 7). No conditions: definitions and lemmas z4r any program. -/
import Derived.Test.YtjbnebolfnjneaaGreatDoorEv1
import Derived.Laws.Sem
import Derived.Laws.Strings
import Derived.Laws.Entries
import Derived.Laws.StructEq
import Derived.Laws.Strings2
import Derived.Laws.Concat
import Derived.Lib.ConvBytes
import Derived.Laws.BytesArg
import Derived.Laws.MakeOwn
import Derived.Laws.Slices
import Derived.Great.BuildSlice
set_option linter.unusedVariables false
set_option linter.unusedSimpArgs false
/- The type table held against a program's, and what the model's small steps do. Over any program. -/
namespace Go.Proofs.YtjbnebolfnjneaaGreatDoor.Ev
open Go.RowKit

def z2e:Ty→List Value
 | .int k=>[.int k 0]
 | .bool=>[.bool false]
 | .str=>[.string ⟨#[]⟩]
 | .sl _ _=>[.slice none 0 0]
 | .st t=>z2e t
 | .pr a b=>z2e a++z2e b
 | _=>[]
def vEq:Value→Value→Bool
 | .int k n,.int j m=>(k==j)&&(n==m)
 | .bool a,.bool b=>a==b
 | .string a,.string b=>(a.size==0)&&(b.size==0)
 | .slice none 0 0,.slice none 0 0=>true
 | _,_=>false
def zf0:List Value→List Value→Bool
 | [],[]=>true
 | a::l,b::m=>vEq a b&&zf0 l m
 | _,_=>false
theorem zut {a b:Value} (h:vEq a b=true):a=b:=by
 unfold vEq at h
 split at h
 ·simp at h; rw [h.1,h.2]
 ·simp at h; rw [h]
 ·rename_i a b
  simp at h
  rw [h.1,h.2]
 ·rfl
 ·cases h
theorem zm0:∀ {l m:List Value},zf0 l m=true→l=m
 | [],[],_=>rfl
 | a::l,b::m,h=>by
  simp only [zf0,Bool.and_eq_true] at h
  rw [zut h.1,zm0 h.2]
 | [],_::_,h=>by cases h
 | _::_,[],h=>by cases h

def z14 (tab:List TI) (t:TypeId):Ty:=match tab[t]? with | some i=>i.ty | none=>.un
def z4k (tab:List TI):List (TypeId×Nat)→Nat→Option Ty
 | [],_=>none
 | [(f,o)],n=>bif Nat.beq o n&&!Nat.beq (z14 tab f).sz 0 then some (z14 tab f) else none
 | (f,o)::l,n=>bif Nat.beq o n&&!Nat.beq (z14 tab f).sz 0 then (match z4k tab l (n+(z14 tab f).sz) with | some u=>some (.pr (z14 tab f) u) | none=>none) else none
def z3c (P:Program) (tab:List TI) (t:TypeId) (ti:TI):Bool :=
 match ti.sh,P.underlying t,ti.ty with
 | .int k,some (.int k'),.int k''=>(k==k')&&(k==k'')
 | .bool,some .bool,.bool=>true
 | .str,some .string,.str=>true
 | .sl e,some (.slice e'),.sl e'' u=>Nat.beq e e'&&Nat.beq e e''&&(z14 tab e==u||(Ty.rd (z14 tab e).strip==u))
 | .ptr e,some (.pointer e'),.ptr u=>Nat.beq e e'&&(z14 tab e==u)
 | .fn,some (.func _ _ _),.fs _=>true
 | .st fs,some (.struct fields),.st u=>(fields.toList.map (fun f=>(f.type,f.offset))==fs)&&(z4k tab fs 0==some u) &&
   (!u.flat || (!P.stoodInHeld t && !P.eqGuardType P.depth t && fields.toList.all (fun f => f.name != "_")))
 | _,_,_=>false
def zm1 (P:Program) (t:TypeId):Bool:=match P.underlying t with | some (.interface _)=>true | _=>false
def z7a (P:Program) (tab:List TI) (t:TypeId) (ti:TI):Bool :=
 match ti.sh with
 | .oth=>ti.ty==.un&&(Nat.beq ti.bytes 0||zm1 P t)
 | _=>(match P.info? t with
   | some i=>Nat.beq i.size ti.ty.sz&&Nat.beq i.bytes ti.bytes&&!Nat.beq ti.ty.sz 0&&Nat.blt 0 i.bytes&&(match ti.ty.zero with | some _=>(match i.zero with | some z=>zf0 z.cells.toList (z2e ti.ty) | none=>false) | none=>!ti.ty.fillable||i.zero.isSome)
   | none=>false)&&z3c P tab t ti
def zb (P:Program) (tab:List TI):Bool:=(List.range tab.length).all fun t=>match tab[t]? with | some ti=>z7a P tab t ti | none=>false

structure Sized (P:Program) (t:TypeId) (ti:TI):Prop where
 info:∃ i,P.info? t=some i∧i.size=ti.ty.sz∧i.bytes=ti.bytes∧0<i.bytes∧(∀ z,ti.ty.zero=some z→∃ v,i.zero=some v∧v.cells.toList=z2e ti.ty)∧(ti.ty.fillable=true→∃ v,i.zero=some v)
 pos:ti.ty.sz≠0
theorem z48 {n m:Nat} (h:Nat.beq n m=false):n≠m:=fun e=>by subst e; simp at h

section
variable {P : Program} {E : Env}

theorem z95 (T:zb P E.ti=true) {t:TypeId} {ti:TI} (h:E.ti[t]?=some ti):z7a P E.ti t ti=true:=by
 simp only [zb,List.all_eq_true] at T
 have:=T t (List.mem_range.2 (List.getElem?_eq_some_iff.1 h).1)
 rw [h] at this
 exact this
theorem z2f (T:zb P E.ti=true) {t:TypeId} {ti:TI} (h:E.ti[t]?=some ti) (hs:ti.sh≠.oth):Sized P t ti∧z3c P E.ti t ti=true:=by
 have:=z95 T h
 unfold z7a at this
 split at this
 ·rename_i e; exact absurd e hs
 ·simp only [Bool.and_eq_true] at this
  obtain ⟨h1,h2⟩:=this
  refine ⟨?_,h2⟩
  split at h1
  ·rename_i i hi
   simp only [Bool.and_eq_true,Bool.not_eq_true'] at h1
   obtain ⟨⟨⟨⟨e1,e2⟩,e3⟩,e5⟩,e4⟩:=h1
   refine ⟨⟨i,hi,Nat.eq_of_beq_eq_true e1,Nat.eq_of_beq_eq_true e2,Nat.le_of_ble_eq_true e5,fun z hz=>?_,fun hfi=>?_⟩,z48 e3⟩
   ·rw [hz] at e4
    simp only [] at e4
    split at e4
    ·rename_i v hv; exact ⟨v,hv,zm0 e4⟩
    ·cases e4
   ·split at e4
    ·split at e4
     ·rename_i v hv; exact ⟨v,hv⟩
     ·cases e4
    ·rw [hfi] at e4
     exact Option.isSome_iff_exists.1 e4
  ·cases h1
theorem zij (T:zb P E.ti=true) {t:TypeId} {k:IntKind} {ty:Ty} {b:Nat} (h:E.ti[t]?=some ⟨.int k,ty,b⟩):P.underlying t=some (.int k)∧ty=.int k:=by
 have:=(z2f T h (by simp)).2
 unfold z3c at this
 split at this <;> rename_i e1 e2 e3 <;> first | (cases e1; done) | skip
 ·cases e1; simp at this; exact ⟨by rw [e2,this.1],by have e3':ty=_:=e3; rw [e3',this.2]⟩
 ·cases this
theorem zik (T:zb P E.ti=true) {t:TypeId} {ty:Ty} {b:Nat} (h:E.ti[t]?=some ⟨.bool,ty,b⟩):P.underlying t=some .bool∧ty=.bool:=by
 have:=(z2f T h (by simp)).2
 unfold z3c at this
 split at this <;> rename_i e1 e2 e3 <;> first | (cases e1; done) | skip
 ·exact ⟨e2,e3⟩
 ·cases this
theorem z96 (T:zb P E.ti=true) {t:TypeId} {ty:Ty} {b:Nat} (h:E.ti[t]?=some ⟨.str,ty,b⟩):P.underlying t=some .string∧ty=.str:=by
 have:=(z2f T h (by simp)).2
 unfold z3c at this
 split at this <;> rename_i e1 e2 e3 <;> first | (cases e1; done) | skip
 ·exact ⟨e2,e3⟩
 ·cases this
theorem z6h (T:zb P E.ti=true) {t e:TypeId} {ty:Ty} {b:Nat} (h:E.ti[t]?=some ⟨.sl e,ty,b⟩):P.underlying t=some (.slice e)∧∃ u,ty=.sl e u∧(u=E.tyOf e∨u=.rd (E.tyOf e).strip):=by
 have:=(z2f T h (by simp)).2
 unfold z3c at this
 split at this <;> rename_i e1 e2 e3 <;> first | (cases e1; done) | skip
 ·cases e1
  simp only [Bool.and_eq_true,Bool.or_eq_true,beq_iff_eq] at this
  have a1:=Nat.eq_of_beq_eq_true this.1.1
  have a2:=Nat.eq_of_beq_eq_true this.1.2
  refine ⟨by rw [e2,← a1],?_⟩
  have e3':ty=_:=e3
  rw [e3',← a2]
  exact ⟨_,rfl,this.2.imp (fun h=>h.symm) (fun h=>h.symm)⟩
 ·cases this
theorem zcv (T:zb P E.ti=true) {t e e':TypeId} {u:Ty} {b:Nat} (h:E.ti[t]?=some ⟨.sl e,.sl e' u,b⟩) (hn:∀ v,u≠.rd v):P.underlying t=some (.slice e)∧Ty.sl e' u=.sl e (E.tyOf e):=by
 obtain ⟨h1,u',h2,h3⟩:=z6h T h
 refine ⟨h1,?_⟩
 injection h2 with h4 h5
 subst h4; subst h5
 rcases h3 with h3 | h3
 ·rw [h3]
 ·exact absurd h3 (hn _)
theorem zuu (T:zb P E.ti=true) {t e e':TypeId} {u:Ty} {b:Nat} (h:E.ti[t]?=some ⟨.sl e,.sl e' (.rd u),b⟩) (hn:∀ v,E.tyOf e≠.rd v):P.underlying t=some (.slice e)∧e'=e∧u=(E.tyOf e).strip:=by
 obtain ⟨h1,u',h2,h3⟩:=z6h T h
 refine ⟨h1,?_⟩
 injection h2 with h4 h5
 subst h4; subst h5
 rcases h3 with h3 | h3
 ·exact absurd h3.symm (hn _)
 ·injection h3 with h3; exact ⟨rfl,h3⟩
theorem zav (T:zb P E.ti=true) {t:TypeId} {fs:List (TypeId×Nat)} {ty:Ty} {b:Nat} (h:E.ti[t]?=some ⟨.st fs,ty,b⟩) :
  ∃ fields u,P.underlying t=some (.struct fields)∧fields.toList.map (fun f=>(f.type,f.offset))=fs∧ty=.st u∧z4k E.ti fs 0=some u ∧
   (u.flat = true → P.stoodInHeld t = false ∧ P.eqGuardType P.depth t = false ∧ ∀ f ∈ fields.toList, f.name ≠ "_") := by
 have:=(z2f T h (by simp)).2
 unfold z3c at this
 split at this <;> rename_i e1 e2 e3 <;> first | (cases e1; done) | skip
 ·cases e1
  simp only [Bool.and_eq_true,beq_iff_eq] at this
  refine ⟨_,_,e2,this.1.1,e3,this.1.2,fun hf=>?_⟩
  have h3:=this.2
  rw [hf] at h3
  simp only [Bool.not_true,Bool.false_or,Bool.and_eq_true,Bool.not_eq_true',List.all_eq_true,bne_iff_ne] at h3
  exact ⟨h3.1.1,h3.1.2,h3.2⟩
 ·cases this
theorem z97 (T:zb P E.ti=true) {t:TypeId} {ti:TI} (h:E.ti[t]?=some ti) (hs:ti.sh≠.oth) (w:World) :
  (isAgg t).run P w=.ok ti.ty.isSt w∧(sizeOf t).run P w=.ok ti.ty.sz w∧(P.underlying t).isSome=true:=by
 obtain ⟨⟨⟨i,hi,h1,h2,_,_⟩,_⟩,h3⟩:=z2f T h hs
 have hsz:(sizeOf t).run P w=.ok ti.ty.sz w:=by simp [sizeOf,typeInfo,hi,h1]
 refine ⟨?_,hsz,?_⟩
 ·unfold z3c at h3
  split at h3 <;> first | (rename_i e1 e2 e3; rw [e3]; simp [isAgg,run_underlying e2,Ty.isSt]; done) | cases h3
 ·unfold z3c at h3
  split at h3 <;> first | (rename_i e1 e2 e3; rw [e2]; rfl) | cases h3
theorem z49 (T:zb P E.ti=true) {t:TypeId} (h:(E.tyOf t).sz≠0):∃ ti,E.ti[t]?=some ti∧ti.ty=E.tyOf t∧ti.sh≠.oth:=by
 unfold Env.tyOf at h
 cases hx:E.ti[t]? with
 | none=>rw [hx] at h; simp [Ty.sz] at h
 | some ti =>
  rw [hx] at h
  replace h:ti.ty.sz≠0:=h
  refine ⟨ti,rfl,by simp [Env.tyOf,hx],fun e=>?_⟩
  have:=z95 T hx
  unfold z7a at this
  rw [e] at this
  simp only [Bool.and_eq_true,beq_iff_eq] at this
  rw [this.1] at h
  simp [Ty.sz] at h

theorem zil (T:zb P E.ti=true) (t:TypeId):∀ v,E.tyOf t≠.rd v:=by
 intro v h
 cases hx:E.ti[t]? with
 | none=>simp [Env.tyOf,hx] at h
 | some ti =>
  obtain ⟨sh,ty,b⟩:=ti
  have hty:ty=.rd v:=by simpa [Env.tyOf,hx] using h
  subst hty
  by_cases ho:sh=.oth
  ·subst ho
   have:=z95 T hx
   unfold z7a at this
   simp at this
  ·have h3:=(z2f T hx ho).2
   unfold z3c at h3
   split at h3 <;> first | (rename_i e1 e2 e3; cases e3; done) | cases h3
theorem zim {t:Ty} (h:∀ v,t≠.rd v):t.strip.isSt=t.isSt:=by
 cases t <;> first | rfl | exact absurd rfl (h _)
theorem zm2 (T:zb P E.ti=true) {t:TypeId} (h:(E.tyOf t).sz≠0) {w:World} {a:Addr} {ds:List Value} (hc:z2a w a ds) (hl:ds.length=(E.tyOf t).sz) {v:Value}
  (hv:((E.tyOf t).isSt=true∧v=.agg ds.toArray)∨((E.tyOf t).isSt=false∧ds=[v])):(loadVar t a).run P w=.ok v w:=by
 obtain ⟨ti,h1,h2,h3⟩:=z49 T h
 obtain ⟨e1,e2,_⟩:=z97 T h1 h3 w
 unfold loadVar
 rw [h2] at e1 e2
 rcases hv with ⟨hs,rfl⟩ | ⟨hs,rfl⟩
 ·rw [hs] at e1
  simp only [Sem.run_bind,e1,Result.andThen_ok,if_true,e2]
  rw [← hl,run_loadCells_list w a ds hc]
  rfl
 ·rw [hs] at e1
  simp only [Sem.run_bind,e1,Result.andThen_ok,Bool.false_eq_true,if_false]
  have:=hc 0 v (by simp)
  rw [add_zero] at this
  simp [load,Sem.run,this]

theorem zm3 (T:zb P E.ti=true) {t:TypeId} {i:Nat} {p:List Bool} {f:TypeId} {o:Nat} (h:E.field t i=some (p,f,o)) :
  ∃ fields fd,P.underlying t=some (.struct fields)∧fields[i]?=some fd∧fd.type=f∧fd.offset=o∧(E.tyOf f).sz≠0:=by
 unfold Env.field at h
 split at h
 ·rename_i fs ty b ht
  split at h
  ·rename_i f' o' hf
   cases h
   obtain ⟨fields,u,h1,h2,h3,h4,_⟩:=zav T ht
   rw [← h2,List.getElem?_map,Option.map_eq_some_iff] at hf
   obtain ⟨fd,hfd,he⟩:=hf
   cases he
   refine ⟨fields,fd,h1,by rw [← Array.getElem?_toList]; exact hfd,rfl,rfl,?_⟩
   have key:∀ (fs:List (TypeId×Nat)) (n:Nat) (u:Ty),z4k E.ti fs n=some u→∀ x∈fs,(z14 E.ti x.1).sz≠0:=by
    intro fs
    induction fs with
    | nil=>intro n u h; cases h
    | cons y l ih =>
     intro n u h x hx
     obtain ⟨f,o⟩:=y
     have hb:(Nat.beq o n&&!Nat.beq (z14 E.ti f).sz 0)=true:=by
      cases hb:(Nat.beq o n&&!Nat.beq (z14 E.ti f).sz 0) with
      | true=>rfl
      | false=>cases l <;> simp [z4k,hb] at h
     rcases List.mem_cons.1 hx with rfl | hx
     ·simp only [Bool.and_eq_true,Bool.not_eq_true'] at hb
      exact z48 hb.2
     ·cases l with
      | nil=>cases hx
      | cons z l =>
       simp only [z4k,hb,cond_true] at h
       split at h
       ·rename_i u' hu; exact ih _ u' hu x hx
       ·cases h
   have:=key fs 0 u h4 (fd.type,fd.offset) (by rw [← h2]; exact List.mem_map_of_mem (List.mem_of_getElem? hfd))
   exact this
  ·cases h
 ·cases h
end

section
variable {P : Program} {E : Env} {w0 : World} {ok O : Nat → Prop} {σ : St} {tm : Array Value} {w : World} {M : Map} {a : Act}

theorem zuv {s:Tmp} {v:Value} (hat:a.tmps=tm) (h:tm[s]?=some v):a.eval (.tmp s)=v:=by
 show a.tmps.getD s undef=v
 rw [hat,Array.getD_eq_getD_getElem?,h]; rfl
theorem zuw (s:ByteArray):(⟨s.data.toList.toArray⟩:ByteArray)=s:=by cases s; simp

theorem zux {v:Value} {s:SV} (h:cst v=some s):za w0 ok M s [v]∧s.isSt=false∧s.roots=[]∧s.boxes=[]:=by
 unfold cst at h
 split at h <;> cases h
 ·exact ⟨rfl,rfl,rfl,rfl⟩
 ·exact ⟨rfl,rfl,rfl,rfl⟩
 ·refine ⟨?_,rfl,rfl,rfl⟩
  show [_]=[_]
  rw [zuw]
 ·exact ⟨⟨_,rfl,rfl⟩,rfl,rfl,rfl⟩

theorem zz (R:Rep E w0 ok O σ tm w M) (hat:a.tmps=tm) {x:Operand} {s:SV} (h:opd σ x=some s):zi w0 ok M s (a.eval x)∧Live σ s:=by
 cases x with
 | tmp t =>
  obtain ⟨u,h1,h2⟩:=R.slots t s h
  rw [zuv hat h1]
  exact ⟨h2,R.liveS t s h⟩
 | const v =>
  obtain ⟨h1,h2,h3,h4⟩:=zux (w0:=w0) (ok:=ok) (M:=M) h
  exact ⟨z1m h1 (.inr ⟨h2,rfl⟩),⟨by simp [h3],by simp [h4]⟩⟩
 | global g=>cases h
 | func f =>
  cases h
  exact ⟨⟨_,⟨#[],rfl,rfl⟩,.inr ⟨rfl,rfl⟩⟩,⟨by simp [SV.roots],by simp [SV.boxes]⟩⟩

theorem z7b (R:Rep E w0 ok O σ tm w M) (hat:a.tmps=tm):∀ {l:List Operand} {ss:List SV},z4t σ l=some ss→ss.length=l.length∧∀ (i:Nat) x s,l[i]?=some x→ss[i]?=some s→zi w0 ok M s (a.eval x)∧Live σ s
 | [],ss,h=>by cases h; exact ⟨rfl,by simp⟩
 | x::l,ss,h=>by
  simp only [z4t] at h
  split at h
  ·rename_i s r h1 h2
   cases h
   obtain ⟨e1,e2⟩:=z7b R hat h2
   refine ⟨by simp [e1],fun i y z hy hz=>?_⟩
   cases i with
   | zero =>
    simp only [List.getElem?_cons_zero,Option.some.injEq] at hy hz
    subst hy; subst hz
    exact zz R hat h1
   | succ i =>
    simp only [List.getElem?_cons_succ] at hy hz
    exact e2 i y z hy hz
  ·cases h

def z1f (t:Ty) (v:Value) (cs:List Value):Prop:=(t.isSt=true∧v=.agg cs.toArray)∨(t.isSt=false∧cs=[v])

theorem zuy {d:Nat} {s:SV} {v:SVal} {cs:List Value} (R:Rep E w0 ok O σ tm w M) (h:res E σ d s=some v) (hs:za w0 ok M s cs):s.isSt=v.t.isSt:=by
 cases d with
 | zero=>cases h
 | succ d =>
  unfold res at h
  cases s with
  | val t x=>cases h; cases t <;> rfl
  | ref i p =>
   simp only [zj] at h
   split at h
   ·rename_i r hr
    obtain ⟨l,hl,he,hh,hn⟩:=R.rows i r hr
    obtain ⟨e,t,l',h1,rfl⟩:=hs
    rw [hl] at h1
    rw [← he] at h
    have h2:=z45 (.sl r.e r.t) l p
    rw [h1] at h2
    have h3:sub (.sl r.e r.t) (erase (.sl r.e r.t) l) p=some v:=h
    rw [h3] at h2
    cases h2
    rfl
   ·cases h
  | vw i lo n =>
   simp only [zj] at h
   split at h
   ·cases h; rfl
   ·cases h
  | ls i =>
   simp only [zj] at h
   split at h
   ·rename_i b hb
    have hb':=z94 (fun s k=>zj E σ d s k) (fun s k=>zy E σ d s k) (E.tyOf b.ty) b.c (fun xs=>some (SVal.mk (.sl b.ty (E.tyOf b.ty)) xs))
    have h':(lsC (fun s k=>zj E σ d s k) (E.tyOf b.ty) b.c fun xs=>some (SVal.mk (.sl b.ty (E.tyOf b.ty)) xs))=some v:=h
    rw [hb'] at h'
    obtain ⟨xs,hx,hv⟩:=Option.bind_eq_some_iff.1 h'
    cases hv; rfl
   ·cases h
  | st s =>
   simp only [zj] at h
   rw [zy] at h
   obtain ⟨u,hu,hv⟩:=Option.bind_eq_some_iff.1 h
   cases hv; rfl
  | pr x y =>
   simp only [zj] at h
   rw [zy] at h
   obtain ⟨u,hu,h⟩:=Option.bind_eq_some_iff.1 h
   rw [zy] at h
   obtain ⟨z,hz,hv⟩:=Option.bind_eq_some_iff.1 h
   cases hv; rfl
  | bp i p o =>
   simp only [zj] at h
   split at h
   ·split at h
    ·cases ho:Nat.beq _ _ <;> rw [ho] at h
     ·cases h
     ·simp only [cond_true] at h
      rw [zy] at h
      obtain ⟨u,hu,hv⟩:=Option.bind_eq_some_iff.1 h
      cases hv; rfl
    ·cases h
   ·cases h
  | ep i p n f o =>
   simp only [zj] at h
   split at h
   ·rw [z2r] at h
    obtain ⟨u,hu,h⟩:=Option.bind_eq_some_iff.1 h
    cases ho:Nat.beq (u.t.offP f) o <;> rw [ho] at h
    ·cases h
    ·simp only [cond_true] at h
     rw [z2r] at h
     obtain ⟨z,hz,hv⟩:=Option.bind_eq_some_iff.1 h
     cases hv; rfl
   ·cases h
  | lp i n=>cases h
  | clo g c =>
   simp only [zj] at h
   rw [zy] at h
   obtain ⟨u,hu,hv⟩:=Option.bind_eq_some_iff.1 h
   cases hv; rfl
  | tup s=>cases h
  | cns x y=>cases h
  | nl=>cases h
  | no=>cases h; rfl
  | er b=>cases h
  | un=>cases h

theorem zm4 (R:Rep E w0 ok O σ tm w M) {d:Nat} {s:SV} {v:SVal} {u:Value} (h:res E σ d s=some v) (hs:zi w0 ok M s u):∃ cs,Rd w (Lt w) v.t v.x cs∧z1f v.t u cs:=by
 rcases z34 hs with rfl | ⟨c,vs,rfl,rfl,h1⟩ | ⟨cs,h1,h2⟩
 ·cases d <;> cases h
 ·cases d <;> cases h
 ·refine ⟨cs,z79 R d s v cs h h1,?_⟩
  unfold z1f
  rw [← zuy R h h1]
  exact h2

theorem Ext.pure {s:SV} {v:Value} (h:zi w0 ok M s v) (hl:Live σ s):Ext E w0 ok σ w M s [] [] v w M :=
 ⟨h,Kept.refl _ _,fun _ _=>rfl,fun _ _=>⟨rfl,rfl,rfl⟩,fun i r h=>(nomatch h),fun i j _ ⟨r,h⟩=>(nomatch h),fun i b h=>(nomatch h),fun i j ⟨r,h⟩=>(nomatch h),fun i j ⟨r,h⟩=>(nomatch h),
  ⟨fun i hi=>.inl (hl.rows i hi),fun i hi=>.inl (hl.boxes i hi)⟩,fun i b h=>(nomatch h)⟩

def z10 (P:Program) (E:Env) (w0:World) (ok:Nat→Prop) (σ:St) (w:World) (M:Map) (a:Act) (o:Oper) (x:Out):Prop :=
 ∃ v w' M',(execOp a.eval o).run P w=.ok (.value v) w'∧Ext E w0 ok σ w M x.1 x.2.1 x.2.2 v w' M'

theorem z2s (t:Ty) (x:t.T):Live σ (.val t x):=⟨by simp [SV.roots],by simp [SV.boxes]⟩
theorem z10.val {o:Oper} {t:Ty} {x:t.T} {v:Value} (hr:Rd w0 ok t x [v]) (ht:t.isSt=false) (h:(execOp a.eval o).run P w=.ok (.value v) w):z10 P E w0 ok σ w M a o (.val t x,[],[]) :=
 ⟨v,w,M,h,Ext.pure (z1m hr (.inr ⟨(by cases t <;> first | rfl | cases ht),rfl⟩)) (z2s t x)⟩

def z2j {α:Type} (f:Nat→α) (i:Nat) (x:α):Nat→α:=fun j=>if j=i then x else f j
theorem z1n {α:Type} (f:Nat→α) (i:Nat) (x:α):z2j f i x i=x:=by simp [z2j]
theorem z35 {α:Type} (f:Nat→α) {i j:Nat} (x:α) (h:j≠i):z2j f i x j=f j:=by simp [z2j,h]
theorem z3m {α:Type} {i j:Nat} {x y:α} (h:lk [(i,x)] j=some y):j=i∧y=x:=by
 rw [zn] at h
 split at h
 ·rename_i e; cases h; exact ⟨e.symm,rfl⟩
 ·cases h
theorem zm5 {α:Type} {i j:Nat} {x:α} (h:lk [(i,x)] j=none):j≠i:=by
 rw [zn] at h
 split at h
 ·cases h
 ·rename_i e; exact fun h=>e h.symm

theorem Ext.row {i:Nat} {e:TypeId} {t:Ty} {xs:List t.T} {z:Bool} {l:L (.sl e t)} {w':World} (hp:z=false→plain w' (.sl e t) l) (hk:Kept (fun _=>False) w w') (he:erase (.sl e t) l=xs) (hh:holds (Rd w0 ok) w' (.sl e t) l) (hn:(z6 (.sl e t) l).Nodup)
  (hg:∀ k∈z6 (.sl e t) l,w.heap.size≤k):Ext E w0 ok σ w M (.ref i []) [(i,⟨e,t,xs,z⟩)] [] (.slice (l.1.map fun g=>⟨g,0,none⟩) l.2.2.length l.2.1) w' { M with loc:=z2j M.loc i ⟨.sl e t,l⟩} where
 val:=⟨z8 (.sl e t) l,⟨e,t,l,(congrArg (fun z:Loc=>zr z.1 z.2 []) (z1n M.loc i ⟨.sl e t,l⟩)).trans rfl,rfl⟩,.inr ⟨rfl,rfl⟩⟩
 kept:=hk
 locO:=fun j hj=>z35 _ _ (zm5 hj)
 blkO:=fun _ _=>⟨rfl,rfl,rfl⟩
 rows:=fun j r hr=>by
  obtain ⟨rfl,rfl⟩:=z3m hr
  exact ⟨l,z1n _ _ _,he,hh,hn,hp,hg⟩
 rr:=fun j k hjk ⟨r,hr⟩ ⟨r',hr'⟩=>absurd ((z3m hr).1.trans (z3m hr').1.symm) hjk
 boxes:=fun j b h=>by cases h
 bb:=fun j k ⟨b,h⟩=>by cases h
 rb:=fun j k _ ⟨b,h⟩=>by cases h
 live:=⟨fun j hj=>by simp [SV.roots] at hj; subst hj; exact .inr ⟨_,by rw [zn,if_pos rfl]⟩,fun j hj=>by simp [SV.boxes] at hj⟩
 liveB:=fun j b h=>by cases h

def mvN (E:Env) (σ:St) (ty:TypeId) (d:Nat) (x:Operand):Option Out:=match x with
  | .const (.slice none 0 0)=>match E.ti[ty]? with
   | some ⟨.sl e,.sl _ t,_⟩=>some ((.ref (32*d) [],[(32*d,⟨e,t,[],false⟩)],[]):Out)
   | _=>none
  | x=>match opd σ x with | some s=>some (s,[],[]) | none=>none
theorem zm6 (R:Rep E w0 ok O σ tm w M) (hat:a.tmps=tm) (T:zb P E.ti=true) {o:Oper} {x:Operand} (hop:o.op=.move x∨o.op=.assign x) {out:Out} (h:ze E σ o=some out):z10 P E w0 ok σ w M a o out:=by
 have hrun:(execOp a.eval o).run P w=.ok (.value (a.eval x)) w:=by
  unfold execOp
  rcases hop with hop | hop <;> rw [hop] <;> rfl
 have main:∀ (d:Nat),mvN E σ o.type d x=some out→z10 P E w0 ok σ w M a o out:=by
  intro d h
  unfold mvN at h
  split at h
  ·split at h
   ·rename_i e e' t b ht
    cases h
    have hx:=Ext.row (E:=E) (w0:=w0) (ok:=ok) (σ:=σ) (w:=w) (M:=M) (i:=32*d) (e:=e) (t:=t) (xs:=[]) (z:=false) (l:=(none,0,[])) (fun _=>⟨fun b hb=>(nomatch hb),by simp⟩) (Kept.refl _ w) rfl ⟨⟨rfl,rfl⟩,by simp⟩ (by simp [z6]) (by simp [z6])
    exact ⟨_,w,_,hrun,hx⟩
   ·cases h
  ·split at h
   ·rename_i s hs
    cases h
    obtain ⟨h1,h2⟩:=zz R hat hs
    exact ⟨_,w,M,hrun,Ext.pure h1 h2⟩
   ·cases h
 refine main (zp o) ?_
 unfold ze z12 at h
 rcases hop with hop | hop <;> simp only [hop] at h <;> exact h

theorem z4l (R:Rep E w0 ok O σ tm w M) (hat:a.tmps=tm) {x:Operand} {t:Ty} {y:t.T} (h:opd σ x=some (.val t y)) (ht:t.isSt=false):∃ v,a.eval x=v∧Rd w0 ok t y [v]:=by
 obtain ⟨h1,_⟩:=zz R hat h
 obtain ⟨cs,h2,h3⟩:=h1
 rcases h3 with ⟨h4,_⟩ | ⟨_,rfl⟩
 ·exfalso; cases t <;> first | (cases h4; done) | (cases ht; done)
 ·exact ⟨_,rfl,h2⟩
theorem z85 (R:Rep E w0 ok O σ tm w M) (hat:a.tmps=tm) {x:Operand} {k:IntKind} {n:Int} (h:opd σ x=some (.val (.int k) n)):a.eval x=.int k n:=by
 obtain ⟨v,rfl,h⟩:=z4l R hat h rfl
 simp only [Rd,List.cons.injEq,and_true] at h; exact h
theorem zin (R:Rep E w0 ok O σ tm w M) (hat:a.tmps=tm) {x:Operand} {b:Bool} (h:opd σ x=some (.val .bool b)):a.eval x=.bool b:=by
 obtain ⟨v,rfl,h⟩:=z4l R hat h rfl
 simp only [Rd,List.cons.injEq,and_true] at h; exact h
theorem zf1 (R:Rep E w0 ok O σ tm w M) (hat:a.tmps=tm) {x:Operand} {b:List UInt8} (h:opd σ x=some (.val .str b)):a.eval x=.string ⟨b.toArray⟩:=by
 obtain ⟨v,rfl,h⟩:=z4l R hat h rfl
 simp only [Rd,List.cons.injEq,and_true] at h; exact h

theorem zuz (R:Rep E w0 ok O σ tm w M) (hat:a.tmps=tm) {o:Oper} {c x y:Operand} (hop:o.op=.pick c x y) {out:Out} (h:ze E σ o=some out):z10 P E w0 ok σ w M a o out:=by
 unfold ze z12 at h
 rw [hop] at h
 simp only [] at h
 split at h
 ·rename_i p hc
  have hv:=zin R hat hc
  have hrun:(execOp a.eval o).run P w=.ok (.value (if p=true then a.eval x else a.eval y)) w:=by
   unfold execOp; rw [hop]; simp [hv,asBool]
  split at h
  ·rename_i hp
   rw [if_pos hp] at hrun
   split at h
   ·rename_i s hs
    cases h
    obtain ⟨h1,h2⟩:=zz R hat hs
    exact ⟨_,w,M,hrun,Ext.pure h1 h2⟩
   ·cases h
  ·rename_i hp
   rw [if_neg hp] at hrun
   split at h
   ·rename_i s hs
    cases h
    obtain ⟨h1,h2⟩:=zz R hat hs
    exact ⟨_,w,M,hrun,Ext.pure h1 h2⟩
   ·cases h
 ·cases h

theorem zv0 (R:Rep E w0 ok O σ tm w M) (hat:a.tmps=tm) {o:Oper} {op:UnOp} {t:TypeId} {x:Operand} (hop:o.op=.unOp op t x) {out:Out} (h:ze E σ o=some out):z10 P E w0 ok σ w M a o out:=by
 unfold ze z12 at h
 rw [hop] at h
 simp only [] at h
 split at h
 ·rename_i b hb
  cases h
  have hv:=zin R hat hb
  exact z10.val (t:=.bool) rfl rfl (by unfold execOp; rw [hop]; simp [hv,Op.unary])
 ·rename_i k n hb
  cases h
  have hv:=z85 R hat hb
  exact z10.val (t:=.int k) rfl rfl (by unfold execOp; rw [hop]; simp [hv,Op.unary,Op.intArith])
 ·cases h

theorem z65 (R:Rep E w0 ok O σ tm w M) (hat:a.tmps=tm) {x:Operand} {s:SV} {v:SVal} (h:opd σ x=some s) (hr:res E σ depth s=some v):∃ cs,Rd w (Lt w) v.t v.x cs∧z1f v.t (a.eval x) cs :=
 zm4 R hr (zz R hat h).1
end

def z1v (P:Program) (E:Env):Prop:=∀ (t:TypeId) (fs:List (TypeId×Nat)) (u:Ty) (b:Nat) (hf:u.flat=true),E.ti[t]?=some ⟨.st fs,.st u,b⟩→∀ (w:World) (x y:u.T) (cs ds:List Value) (ok ok':Nat→Prop),
 Rd w ok u x cs→Rd w ok' u y ds→(Op.equalIn 10000 t (.agg cs.toArray) (.agg ds.toArray)).run P w=.ok (@decide (x=y) (Ty.deq u hf x y)) w

section
variable {P : Program} {E : Env} {w0 : World} {ok O : Nat → Prop} {σ : St} {tm : Array Value} {w : World} {M : Map} {a : Act}

theorem zaw {t:Ty} {v:Value} {cs:List Value} (h:z1f t v cs) (ht:t.isSt=false):cs=[v]:=by
 rcases h with ⟨h,_⟩ | ⟨_,h⟩
 ·rw [ht] at h; cases h
 ·exact h
theorem z86 {w:World} {ok:Nat→Prop} {k:IntKind} {n:Int} {v:Value} {cs:List Value} (h:Rd w ok (.int k) n cs) (hw:z1f (.int k) v cs):v=.int k n:=by
 have:=zaw hw rfl
 subst this
 simp only [Rd,List.cons.injEq,and_true] at h; exact h
theorem zcw {w:World} {ok:Nat→Prop} {b:Bool} {v:Value} {cs:List Value} (h:Rd w ok .bool b cs) (hw:z1f .bool v cs):v=.bool b:=by
 have:=zaw hw rfl
 subst this
 simp only [Rd,List.cons.injEq,and_true] at h; exact h
theorem z87 {w:World} {ok:Nat→Prop} {b:List UInt8} {v:Value} {cs:List Value} (h:Rd w ok .str b cs) (hw:z1f .str v cs):v=.string ⟨b.toArray⟩:=by
 have:=zaw hw rfl
 subst this
 simp only [Rd,List.cons.injEq,and_true] at h; exact h

theorem zm7 {op:BinOp} {k:IntKind} {x y:Int} {v:SVal} (h:zao op k x y=some v) (t:TypeId) (X Y:Operand) (w:World):∃ u,(do eqGuard op t X Y (.int k x) (.int k y); binOp op t (.int k x) (.int k y):Sem Value).run P w=.ok u w∧Rd w (fun _=>False) v.t v.x [u]∧v.t.isSt=false:=by
 have hg:eqGuard op t X Y (.int k x) (.int k y)=pure ():=by cases op <;> rfl
 rw [hg]
 unfold zao at h
 cases op <;> simp only [z7t] at h
 case quo =>
  split at h
  ·cases h
  ·rename_i h0; cases h; exact ⟨_,by simp [binOp,Op.intDiv,h0],rfl,rfl⟩
 case rem =>
  split at h
  ·cases h
  ·rename_i h0; cases h; exact ⟨_,by simp [binOp,Op.intDiv,h0],rfl,rfl⟩
 all_goals first | (cases h; done) | skip
 all_goals (cases h; exact ⟨_,by simp only [binOp,Op.intArith,Op.intBits,Op.intCmp,ne_eq,not_true_eq_false,if_false]; rfl,rfl,rfl⟩)

theorem zm8 {op:BinOp} {x y:List UInt8} {v:SVal} (h:zap op x y=some v) (t:TypeId) (X Y:Operand) (w:World):∃ u,(do eqGuard op t X Y (.string ⟨x.toArray⟩) (.string ⟨y.toArray⟩); binOp op t (.string ⟨x.toArray⟩) (.string ⟨y.toArray⟩):Sem Value).run P w=.ok u w∧Rd w (fun _=>False) v.t v.x [u]∧v.t.isSt=false:=by
 have hg:eqGuard op t X Y (.string ⟨x.toArray⟩) (.string ⟨y.toArray⟩)=pure ():=by cases op <;> rfl
 rw [hg]
 have hb:(x==y)=decide (x=y):=by rw [Bool.eq_iff_iff]; simp
 unfold zap at h
 cases op <;> simp only [z8u] at h
 case add =>
  split at h
  ·rename_i hl
   cases h
   refine ⟨.string ⟨(x++y).toArray⟩,?_,rfl,rfl⟩
   have h2:IntKind.i64.max=9223372036854775807:=rfl
   have h3:¬ ((((⟨x.toArray⟩:ByteArray).size+(⟨y.toArray⟩:ByteArray).size:Nat):Int) > IntKind.i64.max):=by
    rw [h2]
    have e1:(⟨x.toArray⟩:ByteArray).size=x.length:=rfl
    have e2:(⟨y.toArray⟩:ByteArray).size=y.length:=rfl
    omega
   simp only [binOp,Op.stringOp,if_neg h3,ByteArray.mk_append_mk]
   rfl
  ·cases h
 all_goals first | (cases h; done) | skip
 all_goals (cases h; exact ⟨_,by simp only [binOp,Op.stringOp,ByteArray.toList_mk,hb]; rfl,rfl,rfl⟩)

theorem zv1 (R:Rep E w0 ok O σ tm w M) (hat:a.tmps=tm) (T:zb P E.ti=true) (EQ:z1v P E) {o:Oper} {op:BinOp} {t u:TypeId} {x y:Operand} (hop:o.op=.binOp op t x y u) {out:Out} (h:ze E σ o=some out):z10 P E w0 ok σ w M a o out:=by
 unfold ze z12 at h
 rw [hop] at h
 simp only [] at h
 split at h
 ·rename_i sx sy hx hy
  rw [zy] at h
  obtain ⟨⟨t1,x1⟩,h1,h⟩:=Option.bind_eq_some_iff.1 h
  rw [zy] at h
  obtain ⟨⟨t2,x2⟩,h2,h⟩:=Option.bind_eq_some_iff.1 h
  obtain ⟨cs,hr1,hw1⟩:=z65 R hat hx h1
  obtain ⟨ds,hr2,hw2⟩:=z65 R hat hy h2
  have fin:∀ {v:SVal},(∃ z,(do eqGuard op t x y (a.eval x) (a.eval y); binOp op t (a.eval x) (a.eval y):Sem Value).run P w=.ok z w∧Rd w (fun _=>False) v.t v.x [z]∧v.t.isSt=false)→z10 P E w0 ok σ w M a o (.val v.t v.x,[],[]):=by
   rintro v ⟨z,hz,hr,hs⟩
   have hrun:(execOp a.eval o).run P w=.ok (.value z) w:=by
    unfold execOp
    rw [hop]
    simp only [Sem.run_bind] at hz ⊢
    rw [hz]
    rfl
   refine z10.val ?_ hs hrun
   obtain ⟨vt,vx⟩:=v
   have flat:∀ {t:Ty} {x:t.T} {v:Value},Rd w (fun _=>False) t x [v]→t.flat=true→Rd w0 ok t x [v]:=by
    intro t
    induction t with
    | int k=>intro x v h _; exact h
    | bool=>intro x v h _; exact h
    | str=>intro x v h _; exact h
    | st t ih=>intro x v h hf; exact ih h hf
    | pr a b iha ihb =>
     intro x v h hf
     obtain ⟨c1,c2,e,h1,h2⟩:=h
     simp only [Ty.flat,Bool.and_eq_true] at hf
     have l1:=Rd.len h1
     have l2:=Rd.len h2
     rcases c1 with _ | ⟨c,c1⟩
     ·exfalso
      have:∀ t:Ty,t.flat=true→t.sz≠0:=by
       intro t
       induction t with
       | int=>intro _; simp [Ty.sz]
       | bool=>intro _; simp [Ty.sz]
       | str=>intro _; simp [Ty.sz]
       | st t ih=>exact ih
       | pr a b i1 i2=>intro h; simp only [Ty.flat,Bool.and_eq_true] at h; have:=i1 h.1; simp only [Ty.sz]; omega
       | _=>intro h; cases h
      exact this a hf.1 l1.symm
     ·simp only [List.cons_append,List.cons.injEq] at e
      obtain ⟨rfl,e⟩:=e
      have:=List.append_eq_nil_iff.1 e.symm
      rw [this.1] at h1
      rw [this.2] at h2
      exfalso
      have:∀ t:Ty,t.flat=true→t.sz≠0:=by
       intro t
       induction t with
       | int=>intro _; simp [Ty.sz]
       | bool=>intro _; simp [Ty.sz]
       | str=>intro _; simp [Ty.sz]
       | st t ih=>exact ih
       | pr a b i1 i2=>intro h; simp only [Ty.flat,Bool.and_eq_true] at h; have:=i1 h.1; simp only [Ty.sz]; omega
       | _=>intro h; cases h
      have l:=Rd.len h2
      exact this b hf.2 l.symm
    | _=>intro x v h hf; cases hf
   have hmono:Rd w (fun _=>False) vt vx [z]:=hr
   exact (Rd.move (w:=w) (w':=w0) (ok:=fun _=>False) (fun k hk=>hk.elim) hmono).mono (fun k hk=>hk.elim)
  simp only [] at h h1 h2 hr1 hr2 hw1 hw2
  rw [zeu] at h
  obtain ⟨v,hv,h⟩:=Option.bind_eq_some_iff.1 h
  cases h
  apply fin
  unfold bin z5j at hv
  split at hv
  ·rename_i k l x1 x2 _ _
   rw [z86 hr1 hw1,z86 hr2 hw2]
   split at hv
   ·split at hv
    ·cases hv
    ·rename_i hn; cases hv; exact ⟨_,by simp [binOp,Op.shift,hn,eqGuard],rfl,rfl⟩
   ·split at hv
    ·cases hv
    ·rename_i hn; cases hv; exact ⟨_,by simp [binOp,Op.shift,hn,eqGuard],rfl,rfl⟩
   ·split at hv
    ·rename_i hk
     subst hk
     exact zm7 hv t x y w
    ·cases hv
  ·rename_i x1 x2 _ _
   rw [zcw hr1 hw1,zcw hr2 hw2]
   split at hv
   ·rename_i ty b ht
    obtain ⟨hu,_⟩:=zik T ht
    split at hv
    ·cases hv
     exact ⟨_,by rw [eqGuard_at_bool]; simp only [Sem.run_bind,Sem.run_pure,Result.andThen_ok]; exact run_eql_bool _ t _ _ hu,rfl,rfl⟩
    ·cases hv
     exact ⟨_,by rw [eqGuard_at_bool]; simp only [Sem.run_bind,Sem.run_pure,Result.andThen_ok]; exact run_neq_bool _ t _ _ hu,rfl,rfl⟩
    ·cases hv
   ·cases hv
  ·rename_i x1 x2 _ _
   rw [z87 hr1 hw1,z87 hr2 hw2]
   exact zm8 hv t x y w
  ·rename_i t1 t2 x1 x2 _ _
   split at hv
   ·rename_i fs v' b ht
    split at hv
    ·rename_i he
     subst he
     split at hv
     ·rename_i he2
      subst he2
      split at hv
      ·rename_i hf
       obtain ⟨fields,u',h3,h4,h5,h6,h7⟩:=zav T ht
       cases h5
       obtain ⟨g1,g2,g3⟩:=h7 hf
       have e1:a.eval x=.agg cs.toArray:=by
        rcases hw1 with ⟨_,h⟩ | ⟨h,_⟩
        ·exact h
        ·cases h
       have e2:a.eval y=.agg ds.toArray:=by
        rcases hw2 with ⟨_,h⟩ | ⟨h,_⟩
        ·exact h
        ·cases h
       rw [e1,e2]
       have key:=EQ t fs _ b hf ht w _ _ cs ds _ _ hr1 hr2
       split at hv
       ·cases hv
        refine ⟨_,?_,rfl,rfl⟩
        simp only [Sem.run_bind,run_eqGuard_agg w _ t x y _ _ g2,Result.andThen_ok,run_eql_struct,key]
       ·cases hv
        refine ⟨_,?_,rfl,rfl⟩
        simp only [Sem.run_bind,run_eqGuard_agg w _ t x y _ _ g2,Result.andThen_ok,run_neq_struct,key]
       ·cases hv
      ·cases hv
     ·cases hv
    ·cases hv
   ·cases hv
  ·cases hv
 ·cases h
end

section
variable {P : Program} {E : Env} {w0 : World} {ok O : Nat → Prop} {σ : St} {tm : Array Value} {w : World} {M : Map} {a : Act}

theorem zv2 (T:zb P E.ti=true) {t:TypeId} (h:E.known t=true):∃ d,P.underlying t=some d:=by
 unfold Env.known at h
 split at h
 ·cases h
 ·rename_i ti hn ht
  have:=(z97 T ht (by intro e; obtain ⟨sh,ty,b⟩:=ti; dsimp only at e; subst e; exact hn _ _ rfl) (default:World)).2.2
  exact Option.isSome_iff_exists.1 this
 ·cases h

theorem zv3 (w:World) (n:Nat) (e:TypeId) (h:n≤9223372036854775807):n≤grownCap w n 0 e∧grownCap w n 0 e≤maxLen:=by
 have h1:grownCap w n 0 e=n+w.tape w.drawn (.appendCap n 0 e) % (2 ^ 63-n):=rfl
 rw [h1]
 have:=Nat.mod_lt (w.tape w.drawn (.appendCap n 0 e)) (show 0<2 ^ 63-n by omega)
 unfold maxLen
 omega

theorem zv4 (R:Rep E w0 ok O σ tm w M) (hat:a.tmps=tm) (T:zb P E.ti=true) {o:Oper} {t u:TypeId} {x:Operand} (hop:o.op=.convert t u x) {out:Out} (h:ze E σ o=some out):z10 P E w0 ok σ w M a o out:=by
 unfold ze z12 at h
 rw [hop] at h
 simp only [] at h
 have hex:(execOp a.eval o).run P w=((convert t u (a.eval x)).run P w).andThen fun v w'=>.ok (.value v) w':=by
  unfold execOp
  rw [hop]
  simp only [Sem.run_bind]
  rfl
 split at h
 ·rename_i s hs
  cases hk:E.known t <;> rw [hk] at h
  ·cases h
  ·obtain ⟨dt,hdt⟩:=zv2 T hk
   simp only [Bool.not_true,cond_false] at h
   split at h
   ·rename_i i _ _ ht
    obtain ⟨hu,_⟩:=zij T ht
    split at h
    ·rename_i k n
     cases h
     have hv:=z85 R hat hs
     refine z10.val (t:=.int i) rfl rfl ?_
     rw [hex,hv]
     simp [convert,run_underlying hdt,run_underlying hu,Conv.intToInt,Result.andThen]
    ·cases h
   ·rename_i _ _ ht
    obtain ⟨hu,_⟩:=z96 T ht
    split at h
    ·rename_i n
     cases h
     have hv:=zf1 R hat hs
     refine z10.val (t:=.str) rfl rfl ?_
     rw [hex,hv]
     simp [convert,run_underlying hdt,run_underlying hu,Result.andThen]
    ·split at h
     ·rename_i e e' _ ht'
      obtain ⟨hu',htt⟩:=zcv T ht' (fun v h=>by cases h)
      have he:E.tyOf e=.int .u8:=by injection htt with _ h; exact h.symm
      obtain ⟨ti,he1,he2,he3⟩:=z49 T (t:=e) (by rw [he]; simp [Ty.sz])
      have he4:P.underlying e=some (.int .u8):=by
       obtain ⟨sh,ty,b⟩:=ti
       dsimp only at he2 he3
       rw [he] at he2
       subst he2
       have:=(z2f T he1 he3).2
       unfold z3c at this
       split at this <;> rename_i g1 g2 g3 <;> first | (cases g3; done) | skip
       ·cases g3; simp at this; rw [g2,← this.1,this.2]
       ·cases this
      rw [zy] at h
      obtain ⟨⟨t1,x1⟩,h1,h⟩:=Option.bind_eq_some_iff.1 h
      simp only [] at h
      split at h
      ·rename_i e2 xs
       cases h
       obtain ⟨cs,hr,hw⟩:=z65 R hat hs h1
       have hc:=zaw hw rfl
       subst hc
       obtain ⟨A,c,hA,hl,hx⟩:=hr
       simp only [List.cons.injEq,and_true] at hA
       refine z10.val (t:=.str) (v:=.string (strOfNums xs)) rfl rfl ?_
       rw [hex,hA]
       cases hxs:xs with
       | nil =>
        rw [hxs] at hA
        cases A with
        | none =>
         rw [run_convert_bytes_nil w t e hu' he4 _ _ u hu]
         rfl
        | some ad =>
         rw [run_convert_bytes_string w t u e _ _ _ hu' he4 hu]
         simp [Conv.bytesToString,loadCells,loadCellsFrom,Result.andThen]
         rfl
       | cons y ys =>
        obtain ⟨ad,rfl,hok,hcell⟩:=hx (by rw [hxs]; simp)
        have hy:∀ i,i<xs.length→w.cell? (ad.add i)=some (.int .u8 (xs.getD i 0)):=by
         intro i hi
         obtain ⟨ds,hd,hc⟩:=hcell i xs[i] (List.getElem?_eq_getElem hi)
         simp only [Rd] at hd
         subst hd
         have:=hc 0 _ rfl
         rw [za9,show i*Ty.sz (.int .u8)+0=i by simp [Ty.sz]] at this
         rw [this]
         simp [List.getD_eq_getElem?_getD,hi]
        have hsp:ad.spot=none:=by
         have:=hy 0 (by rw [hxs]; simp)
         rw [add_zero] at this
         unfold World.cell? at this
         split at this
         ·cases hsp:ad.spot with
          | none=>rfl
          | some z=>rw [hsp] at this; simp at this
         ·cases this
        obtain ⟨b,off,sp⟩:=ad
        dsimp only at hsp
        subst hsp
        rw [← hxs]
        have:=run_convert_bytes_arg w t e hu' he4 b off xs.length c xs rfl (fun i hi=>by have:=hy i hi; rwa [z2v] at this) u hu
        rw [this]
        rfl
      ·cases h
     ·cases h
   ·rename_i e e' _ ht
    obtain ⟨hu,htt⟩:=zcv T ht (fun v h=>by cases h)
    have he:E.tyOf e=.int .u8:=by injection htt with _ h; exact h.symm
    obtain ⟨ti,he1,he2,he3⟩:=z49 T (t:=e) (by rw [he]; simp [Ty.sz])
    have he4:P.underlying e=some (.int .u8):=by
     obtain ⟨sh,ty,b⟩:=ti
     dsimp only at he2 he3
     rw [he] at he2
     subst he2
     have:=(z2f T he1 he3).2
     unfold z3c at this
     split at this <;> rename_i g1 g2 g3 <;> first | (cases g3; done) | skip
     ·cases g3; simp at this; rw [g2,← this.1,this.2]
     ·cases this
    split at h
    ·rename_i bs
     split at h
     ·rename_i hlen
      cases h
      have hv:=zf1 R hat hs
      have hb:bs.length≤9223372036854775807:=by unfold LIM at hlen; omega
      obtain ⟨g1,g2⟩:=zv3 w bs.length e hb
      have hsz:(⟨bs.toArray⟩:ByteArray).size=bs.length:=rfl
      have hrun:(execOp a.eval o).run P w=.ok (.value (.slice (some ⟨w.heap.size,0,none⟩) bs.length (grownCap w bs.length 0 e))) (Lib.bytesWorld w e ⟨bs.toArray⟩):=by
       rw [hex,hv,Lib.run_convert_string_bytes w t u e _ hdt hu he4]
       rfl
      have hfl:(bs.map fun b=>(b.toNat:Int)).flatMap (z8 (.int .u8))=bs.map fun b=>Value.int .u8 b.toNat:=by
       clear hs hlen hv hb g1 g2 hsz hrun
       induction bs with
       | nil=>rfl
       | cons b bs ih=>rw [List.map_cons,List.map_cons,List.flatMap_cons,ih]; rfl
      have nob:z6 (.sl e (.int .u8)) (some w.heap.size,grownCap w bs.length 0 e,bs.map fun b=>(b.toNat:Int))=[w.heap.size]:=by
       simp only [z6,Option.toList_some,List.flatMap_eq_nil_iff.2 (fun _ _=>rfl),List.append_nil]
      have hX:=Ext.row (E:=E) (w0:=w0) (ok:=ok) (σ:=σ) (w:=w) (M:=M) (i:=32*(zp o)) (e:=e) (t:=.int .u8) (xs:=bs.map fun b=>(b.toNat:Int)) (z:=true)
       (l:=(some w.heap.size,grownCap w bs.length 0 e,bs.map fun b=>(b.toNat:Int))) (w':=Lib.bytesWorld w e ⟨bs.toArray⟩) (fun h=>by cases h)
       ⟨rfl,rfl,rfl,by rw [Lib.bytesWorld_size]; omega,fun k hk _=>Lib.bytesWorld_at_old w e _ k hk⟩ (by simp [erase])
       ⟨⟨_,_,Lib.bytesWorld_at_new w e _,by simp; exact g1,g2,by simp [Lib.bytesCells,Ty.sz,hsz,ByteArray.size]; omega,by
        simp only [List.length_map,Ty.sz,Nat.mul_one]
        rw [hfl]
        simp [Lib.bytesCells],.inr (by simp [Lib.bytesCells,Ty.sz])⟩,by simp [holds]⟩
       (by rw [nob]; simp) (by rw [nob]; simp)
      simp only [List.length_map] at hX
      exact ⟨_,_,_,hrun,hX⟩
     ·cases h
    ·cases h
   ·cases h
 ·cases h

theorem Live.sub_val {s:SV} {t:Ty} {x:t.T} (h:s=.val t x):Live σ s:=by subst h; exact z2s t x

theorem zm9 (R:Rep E w0 ok O σ tm w M) (hat:a.tmps=tm) {o:Oper} {x:Operand} (hop:o.op=.nilCheck x) {out:Out} (h:ze E σ o=some out):z10 P E w0 ok σ w M a o out:=by
 unfold ze z12 at h
 rw [hop] at h
 simp only [] at h
 have key:∀ s,opd σ x=some s→(∃ ad,a.eval x=.pointer (some ad))∨(∃ g caps,a.eval x=.func (.func g) #[] caps)→z10 P E w0 ok σ w M a o (s,[],[]):=by
  intro s hs hv
  obtain ⟨h1,h2⟩:=zz R hat hs
  have hrun:(execOp a.eval o).run P w=.ok (.value (a.eval x)) w:=by
   unfold execOp
   rw [hop]
   rcases hv with ⟨ad,hv⟩ | ⟨g,caps,hv⟩ <;> simp only [hv] <;> rfl
  exact ⟨_,w,M,hrun,Ext.pure h1 h2⟩
 split at h
 ·rename_i t y hs
  cases h
  obtain ⟨v,hv,hr⟩:=z4l R hat hs rfl
  obtain ⟨ad,ds,he,_⟩:=hr
  cases he
  exact key _ hs (.inl ⟨ad,hv⟩)
 ·rename_i i p c hs
  cases h
  obtain ⟨cs,h2,h3⟩:=(zz R hat hs).1
  rcases h3 with ⟨h4,_⟩ | ⟨_,rfl⟩
  ·cases h4
  ·simp only [za,List.cons.injEq,and_true] at h2
   exact key _ hs (.inl ⟨_,h2⟩)
 ·rename_i i p n f c hs
  cases h
  obtain ⟨cs,⟨e,t,l,g,_,_,_,h2⟩,h3⟩:=(zz R hat hs).1
  rcases h3 with ⟨h4,_⟩ | ⟨_,rfl⟩
  ·cases h4
  ·simp only [List.cons.injEq,and_true] at h2
   exact key _ hs (.inl ⟨_,h2⟩)
 ·rename_i g c hs
  cases h
  obtain ⟨cs,⟨caps,h2,_⟩,h3⟩:=(zz R hat hs).1
  rcases h3 with ⟨h4,_⟩ | ⟨_,rfl⟩
  ·cases h4
  ·simp only [List.cons.injEq,and_true] at h2
   exact key _ hs (.inr ⟨_,_,h2⟩)
 ·rename_i g c y hs
  cases h
  obtain ⟨v,hv,hr⟩:=z4l R hat hs rfl
  obtain ⟨caps,he,_⟩:=hr
  cases he
  exact key _ hs (.inr ⟨_,_,hv⟩)
 ·rename_i ids y hs
  cases h
  obtain ⟨v,hv,hr⟩:=z4l R hat hs rfl
  obtain ⟨he,_⟩:=hr
  cases he
  exact key _ hs (.inr ⟨_,_,hv⟩)
 ·cases h

theorem zio:∀ {s:SV} {vs:List Value} {n:Nat} {r:SV},z2d w0 ok M s vs→s.nth n=some r→∃ v cs,vs[n]?=some v∧za w0 ok M r cs∧z2h r v cs
 | .cns x y,vs,0,r,h,hn=>by
  cases hn
  obtain ⟨v,vs',rfl,⟨cs,h1,h2⟩,_⟩:=h
  exact ⟨v,cs,rfl,h1,h2⟩
 | .cns x y,vs,n+1,r,h,hn=>by
  obtain ⟨v,vs',rfl,_,h3⟩:=h
  obtain ⟨u,cs,h4,h5⟩:=zio h3 hn
  exact ⟨u,cs,by rw [List.getElem?_cons_succ]; exact h4,h5⟩
theorem ziq:∀ {s:SV} {n:Nat} {r:SV},s.nth n=some r→Live σ s→Live σ r
 | .cns x y,0,r,hn,h=>by
  cases hn
  exact ⟨fun i hi=>h.rows i (by simp [SV.roots,hi]),fun i hi=>h.boxes i (by simp [SV.boxes,hi])⟩
 | .cns x y,n+1,r,hn,h=>ziq (s:=y) hn ⟨fun i hi=>h.rows i (by simp [SV.roots,hi]),fun i hi=>h.boxes i (by simp [SV.boxes,hi])⟩

theorem zv5 (R:Rep E w0 ok O σ tm w M) (hat:a.tmps=tm) {o:Oper} {x:Operand} {i:Nat} (hop:o.op=.extract x i) {out:Out} (h:ze E σ o=some out):z10 P E w0 ok σ w M a o out:=by
 unfold ze z12 at h
 rw [hop] at h
 simp only [] at h
 split at h
 ·rename_i s hs
  split at h
  ·rename_i r hr
   cases h
   obtain ⟨⟨vs,hv,h1⟩,h2⟩:=zz R hat hs
   obtain ⟨v,cs,h3,h4,h5⟩:=zio h1 hr
   refine ⟨v,w,M,?_,Ext.pure (z1m h4 h5) (ziq hr ⟨h2.rows,h2.boxes⟩)⟩
   unfold execOp
   rw [hop]
   simp only [hv,Instr.extract]
   rw [← Array.getElem?_toList,h3]
   rfl
  ·cases h
 ·cases h

theorem zv6 {s:SV} {v:Value} (h:s.okCap=true) (hs:zi w0 ok M s v):za w0 ok M s [v]:=by
 rcases z34 hs with rfl | ⟨c,vs,rfl,_,_⟩ | ⟨cs,h4,h5⟩
 ·cases h
 ·cases h
 ·rcases h5 with ⟨h6,_⟩ | ⟨_,rfl⟩
  ·exfalso
   cases s <;> first | (cases h6; done) | (simp [SV.okCap,h6] at h; done)
  ·exact h4
theorem zma:∀ {l:List SV} {vs:List Value},l.length=vs.length→(∀ (i:Nat) s v,l[i]?=some s→vs[i]?=some v→za w0 ok M s [v]∧Live σ s)→za w0 ok M (z7u l) vs∧Live σ (z7u l)
 | [],[],_,h=>⟨rfl,⟨by simp [z7u,SV.roots],by simp [z7u,SV.boxes]⟩⟩
 | [s],[v],_,h=>h 0 s v rfl rfl
 | s::s2::l,v::vs,hl,h=>by
  obtain ⟨h1,l1⟩:=h 0 s v rfl rfl
  obtain ⟨h2,l2⟩:=zma (l:=s2::l) (vs:=vs) (by simpa using hl) (fun i s v hs hv=>h (i+1) s v hs hv)
  refine ⟨⟨[v],vs,rfl,h1,h2⟩,⟨fun i hi=>?_,fun i hi=>?_⟩⟩
  ·simp only [z7u,SV.roots,List.mem_append] at hi
   rcases hi with hi | hi
   ·exact l1.rows i hi
   ·exact l2.rows i hi
  ·simp only [z7u,SV.boxes,List.mem_append] at hi
   rcases hi with hi | hi
   ·exact l1.boxes i hi
   ·exact l2.boxes i hi
 | [],_::_,hl,h=>by simp at hl
 | _::_,[],hl,h=>by simp at hl
 | [_],_::_::_,hl,h=>by simp at hl

theorem zv7 (R:Rep E w0 ok O σ tm w M) (hat:a.tmps=tm) {o:Oper} {fn:Fn} {first caps:Array Operand} (hop:o.op=.makeFunc fn first caps) {out:Out} (h:ze E σ o=some out):z10 P E w0 ok σ w M a o out:=by
 unfold ze z12 at h
 rw [hop] at h
 simp only [] at h
 split at h
 ·rename_i g
  split at h
  ·rename_i l hf hl
   have:first=#[]:=by cases first; simp at hf; subst hf; rfl
   have hrun:(execOp a.eval o).run P w=.ok (.value (.func (.func g) #[] (caps.map a.eval))) w:=by
    unfold execOp
    rw [hop,this]
    simp [Instr.makeFunc]
   cases hk:l.all SV.okCap <;> rw [hk] at h
   ·cases h
   ·cases h
    simp only [List.all_eq_true] at hk
    obtain ⟨e1,e2⟩:=z7b R hat hl
    obtain ⟨h1,h2⟩:=zma (w0:=w0) (ok:=ok) (M:=M) (σ:=σ) (l:=l) (vs:=caps.toList.map a.eval) (by simp [e1]) (fun i s v hs hv=>by
     rw [List.getElem?_map,Option.map_eq_some_iff] at hv
     obtain ⟨x,hx,rfl⟩:=hv
     obtain ⟨h3,h4⟩:=e2 i x s hx hs
     exact ⟨zv6 (hk s (List.mem_of_getElem? hs)) h3,h4⟩)
    exact ⟨_,w,M,hrun,Ext.pure ⟨_,⟨_,rfl,by rw [show (caps.map a.eval).toList=caps.toList.map a.eval by simp]; exact h1⟩,.inr ⟨rfl,rfl⟩⟩ ⟨h2.rows,h2.boxes⟩⟩
  ·cases h
 ·cases h
end

section
variable {P : Program} {E : Env} {w0 : World} {ok O : Nat → Prop} {σ : St} {tm : Array Value} {w : World} {M : Map} {a : Act}

theorem z2a.mid' {w:World} {ad:Addr} {p ds q:List Value} (h:z2a w ad (p++ds++q)):z2a w (ad.add p.length) ds:=by
 intro j u hu
 have hj:=(List.getElem?_eq_some_iff.1 hu).1
 have:=h (p.length+j) u (by rw [List.append_assoc,List.getElem?_append_right (by omega),show p.length+j-p.length=j by omega,List.getElem?_append_left hj]; exact hu)
 rw [za9]; exact this

theorem zcx:∀ {t:Ty},t.flat=true→t.sz≠0
 | .int _,_=>by simp [Ty.sz]
 | .bool,_=>by simp [Ty.sz]
 | .str,_=>by simp [Ty.sz]
 | .st t,h=>zcx (t:=t) h
 | .pr a b,h=>by simp only [Ty.flat,Bool.and_eq_true] at h; have:=zcx h.1; simp only [Ty.sz]; omega
 | .sl _ _,h=>by cases h
 | .ptr _,h=>by cases h
 | .un,h=>by cases h
 | .fn _ _,h=>by cases h
 | .fs _,h=>by cases h
theorem Rd.flat {w w':World} {ok ok':Nat→Prop}:∀ {t:Ty} {x:t.T} {cs:List Value},t.flat=true→Rd w ok t x cs→Rd w' ok' t x cs
 | .int _,_,_,_,h=>h
 | .bool,_,_,_,h=>h
 | .str,_,_,_,h=>h
 | .st t,x,cs,hf,h=>Rd.flat (t:=t) (x:=x) hf h
 | .pr a b,x,cs,hf,h=>by
  simp only [Ty.flat,Bool.and_eq_true] at hf
  obtain ⟨c1,c2,rfl,h1,h2⟩:=h
  exact ⟨c1,c2,rfl,Rd.flat hf.1 h1,Rd.flat hf.2 h2⟩
 | .sl _ _,_,_,h,_=>by cases h
 | .ptr _,_,_,h,_=>by cases h
 | .un,_,_,h,_=>by cases h
 | .fn _ _,_,_,h,_=>by cases h
 | .fs _,_,_,h,_=>by cases h

theorem zcy (T:zb P E.ti=true) {t:TypeId} {i:Nat} {p:List Bool} {f:TypeId} {c:Nat} (h:E.field t i=some (p,f,c)) (ad:Addr) (w:World) :
  (Instr.fieldAt t (.pointer (some ad)) i).run P w=.ok (.pointer (some (ad.add c))) w:=by
 obtain ⟨fields,fd,h1,h2,h3,h4,h5⟩:=zm3 T h
 obtain ⟨ti,e1,e2,e3⟩:=z49 T h5
 have hs:=(z97 T e1 e3 w).2.1
 rw [e2] at hs
 rw [← h3] at hs h5
 rw [← h4]
 simp [Instr.fieldAt,run_underlying h1,h2,Instr.sureAddr,fieldPlace,hs,h5,Result.andThen]

theorem zir:∀ {p:List Bool} {s r:SV},s.part p=some r→Live σ s→Live σ r
 | [],s,r,h,hl=>by cases h; exact hl
 | b::p,s,r,h,hl=>by
  simp only [SV.part] at h
  split at h
  ·rename_i z hz
   refine zir h ?_
   match s,b,hz with
   | .val (.pr a c) x,false,hz=>cases hz; exact z2s _ _
   | .val (.pr a c) x,true,hz=>cases hz; exact z2s _ _
   | .val (.st (.pr a c)) x,false,hz=>cases hz; exact z2s _ _
   | .val (.st (.pr a c)) x,true,hz=>cases hz; exact z2s _ _
   | .pr a c,false,hz=>cases hz; exact ⟨fun i hi=>hl.rows i (by simp [SV.roots,hi]),fun i hi=>hl.boxes i (by simp [SV.boxes,hi])⟩
   | .pr a c,true,hz=>cases hz; exact ⟨fun i hi=>hl.rows i (by simp [SV.roots,hi]),fun i hi=>hl.boxes i (by simp [SV.boxes,hi])⟩
   | .st (.pr a c),false,hz=>cases hz; exact ⟨fun i hi=>hl.rows i (by simp [SV.roots,hi]),fun i hi=>hl.boxes i (by simp [SV.boxes,hi])⟩
   | .st (.pr a c),true,hz=>cases hz; exact ⟨fun i hi=>hl.rows i (by simp [SV.roots,hi]),fun i hi=>hl.boxes i (by simp [SV.boxes,hi])⟩
  ·cases h
theorem zv8 {s:SV} (hl:Live σ s):Live σ s.inside:=by
 cases s with
 | val t x=>cases t <;> exact z2s _ _
 | st s=>exact ⟨hl.rows,hl.boxes⟩
 | _=>exact hl

theorem zmb (R:Rep E w0 ok O σ tm w M) (hat:a.tmps=tm) (T:zb P E.ti=true) {o:Oper} {t:TypeId} {x:Operand} {i:Nat} (hop:o.op=.fieldAddr t x i) {out:Out} (h:ze E σ o=some out):z10 P E w0 ok σ w M a o out:=by
 unfold ze z12 at h
 rw [hop] at h
 simp only [] at h
 have hex:∀ {v:Value},(Instr.fieldAt t (a.eval x) i).run P w=.ok v w→(execOp a.eval o).run P w=.ok (.value v) w:=by
  intro v hv
  unfold execOp
  rw [hop]
  simp only [Sem.run_bind,hv]
  rfl
 split at h
 ·rename_i p f c hf
  split at h
  ·rename_i u y hs
   split at h
   ·rename_i v z hp
    cases hb:Nat.beq ((SV.val u y).inside.offP p) c <;> rw [hb] at h
    ·cases h
    ·cases h
     have hb:=Nat.eq_of_beq_eq_true hb
     obtain ⟨va,hv,hr⟩:=z4l R hat hs rfl
     obtain ⟨ad,ds,he,hok,hr2,hc⟩:=hr
     cases he
     obtain ⟨q,r,ds',rfl,e1,e2⟩:=z78 (w0:=w0) (ok:=ok) (M:=M) (zlt (s:=.val u y) hr2) hp
     refine z10.val (t:=.ptr v) (v:=.pointer (some (ad.add c))) ⟨_,ds',rfl,by rw [zcd]; exact hok,e2,?_⟩ rfl (hex (by rw [hv]; exact zcy T hf ad w))
     have:=hc.mid'
     rw [e1,hb] at this
     exact this
   ·cases h
  ·rename_i j q k hs
   cases h
   obtain ⟨h1,h2⟩:=zz R hat hs
   obtain ⟨cs,h3,h4⟩:=h1
   rcases h4 with ⟨h5,_⟩ | ⟨_,rfl⟩
   ·cases h5
   ·simp only [za,List.cons.injEq,and_true] at h3
    refine ⟨.pointer (some ⟨M.blk j,k+c,none⟩),w,M,hex (by rw [h3,zcy T hf,z2v]),Ext.pure ⟨_,rfl,.inr ⟨rfl,rfl⟩⟩ ⟨by simp [SV.roots],h2.boxes⟩⟩
  ·rename_i j q n g k hs
   cases h
   obtain ⟨h1,h2⟩:=zz R hat hs
   obtain ⟨cs,⟨e,t',l,b,h6,h7,h8,h9⟩,h4⟩:=h1
   rcases h4 with ⟨h5,_⟩ | ⟨_,rfl⟩
   ·cases h5
   ·simp only [List.cons.injEq,and_true] at h9
    refine ⟨.pointer (some ⟨b,n*t'.sz+(k+c),none⟩),w,M,hex (by rw [h9,zcy T hf,z2v,Nat.add_assoc]),Ext.pure ⟨_,⟨e,t',l,b,h6,h7,h8,rfl⟩,.inr ⟨rfl,rfl⟩⟩ ⟨h2.rows,by simp [SV.boxes]⟩⟩
  ·cases h
 ·cases h

theorem zcz {s:SV} {t:Ty} (h:s.okW t=true):s.isSt=t.isSt∧s.w=t.sz∧t.sz≠0∧s≠.un:=by
 simp only [SV.okW,Bool.and_eq_true,beq_iff_eq,Bool.not_eq_true'] at h
 exact ⟨h.2.1.1,Nat.eq_of_beq_eq_true h.2.1.2,z48 h.2.2,fun e=>by rw [e] at h; exact absurd h.1 (by simp [SV.isUn])⟩

theorem zv9 (R:Rep E w0 ok O σ tm w M) (hat:a.tmps=tm) (T:zb P E.ti=true) {o:Oper} {t:TypeId} {x:Operand} {i:Nat} (hop:o.op=.field t x i) {out:Out} (h:ze E σ o=some out):z10 P E w0 ok σ w M a o out:=by
 unfold ze z12 at h
 rw [hop] at h
 simp only [] at h
 split at h
 ·rename_i p f c hf
  split at h
  ·rename_i s hs
   split at h
   ·rename_i r hp
    cases hb:(s.isSt&&Nat.beq (s.inside.offP p) c&&r.okW (E.tyOf f)) <;> rw [hb] at h
    ·cases h
    ·cases h
     simp only [Bool.and_eq_true] at hb
     obtain ⟨⟨b1,b2⟩,b3⟩:=hb
     have b2:=Nat.eq_of_beq_eq_true b2
     obtain ⟨c1,c2,c3,_⟩:=zcz b3
     obtain ⟨h1,h2⟩:=zz R hat hs
     rcases z34 h1 with rfl | ⟨c,vs,rfl,_,_⟩ | ⟨cs,h4,h5⟩
     ·cases b1
     ·cases b1
     ·rcases h5 with ⟨_,h5⟩ | ⟨h6,_⟩
      ·obtain ⟨q,z,ds,rfl,e1,e2⟩:=z78 (zlt h4) hp
       obtain ⟨fields,fd,g1,g2,g3,g4,g5⟩:=zm3 T hf
       obtain ⟨ti,k1,k2,k3⟩:=z49 T g5
       obtain ⟨m1,m2,_⟩:=z97 T k1 k3 w
       rw [k2] at m1 m2
       have hl:ds.length=(E.tyOf f).sz:=by rw [za.len e2,c2]
       have hpart:∃ v,(part fd.type (q++ds++z).toArray fd.offset).run P w=.ok v w∧z2h r v ds:=by
        rw [g3,g4]
        unfold part
        cases hst:(E.tyOf f).isSt with
        | true =>
         rw [hst] at m1 c1
         refine ⟨.agg ds.toArray,?_,.inl ⟨c1,rfl⟩⟩
         simp only [Sem.run_bind,m1,Result.andThen_ok,if_true,m2,Sem.run_pure]
         congr 2
         rw [← b2,← e1,← hl]
         apply Array.ext'
         simp
        | false =>
         rw [hst] at m1 c1
         rcases ds with _ | ⟨v,ds⟩
         ·simp at hl; exact absurd hl.symm c3
         ·have hone:r.w=1:=by
           have:(E.tyOf f).sz=1:=by
            have hsh:=(z2f T k1 k3).2
            rw [← k2] at hst ⊢
            unfold z3c at hsh
            split at hsh <;> first | (rename_i _ _ g; rw [g]; rfl) | (rename_i _ _ g; rw [g] at hst; cases hst) | cases hsh
           rw [c2,this]
          have hd:ds=[]:=by
           have:=za.len e2
           rw [hone] at this
           simpa using this
          subst hd
          refine ⟨v,?_,.inr ⟨c1,rfl⟩⟩
          simp only [Sem.run_bind,m1,Result.andThen_ok,Bool.false_eq_true,if_false]
          have:(q++[v]++z).toArray[c]?=some v:=by
           rw [← b2,← e1]; simp
          rw [this]
          rfl
       obtain ⟨v,hv,hw⟩:=hpart
       refine ⟨v,w,M,?_,Ext.pure (z1m e2 hw) (zir hp (zv8 h2))⟩
       unfold execOp
       rw [hop]
       simp only [Sem.run_bind,h5,Instr.field,run_underlying g1,Result.andThen_ok,g2,asAgg,Sem.run_pure,hv]
      ·rw [b1] at h6; cases h6
   ·cases h
  ·cases h
 ·cases h

theorem zf2 (T:zb P E.ti=true) {t:TypeId} (h:E.elemSz t≠0) (w:World):∃ e,P.underlying t=some (.slice e)∧(sizeOf e).run P w=.ok (E.elemSz t) w∧E.ti[t]?≠none:=by
 unfold Env.elemSz at h ⊢
 split at h
 ·rename_i e e' u b ht
  obtain ⟨h1,u',h2,h3⟩:=z6h T ht
  injection h2 with _ h2
  subst h2
  have hs:u.sz=(E.tyOf e).sz:=by
   rcases h3 with rfl | rfl
   ·rfl
   ·exact z61 _
  rw [ht]
  obtain ⟨ti,k1,k2,k3⟩:=z49 T (t:=e) (by rw [← hs]; exact h)
  have:=(z97 T k1 k3 w).2.1
  rw [k2,← hs] at this
  exact ⟨e,h1,this,by simp⟩
 ·exact absurd rfl h

theorem zd0 (T:zb P E.ti=true) {t:TypeId} (hz:E.elemSz t≠0) {ad:Addr} {n c:Nat} {k:IntKind} {i:Int} (h0:0≤i) (h1:i<n) (w:World) :
  (Instr.indexAt t (.slice (some ad) n c) (.int k i)).run P w=.ok (.pointer (some (ad.add (i.toNat*E.elemSz t)))) w:=by
 obtain ⟨e,h2,h3,_⟩:=zf2 T hz w
 simp [Instr.indexAt,asIntOf,run_underlying h2,h0,h1,h3,Result.andThen]

theorem zva (R:Rep E w0 ok O σ tm w M) {d i:Nat} {p:List Step} {cs:List Value} {v:SVal} (h:res E σ d (.ref i p)=some v) (hs:za w0 ok M (.ref i p) cs) :
  ∃ e t l,zr (M.loc i).1 (M.loc i).2 p=some ⟨.sl e t,l⟩∧v=⟨.sl e t,erase (.sl e t) l⟩∧holds (Rd w0 ok) w (.sl e t) l∧cs=z8 (.sl e t) l:=by
 cases d with
 | zero=>cases h
 | succ d =>
  unfold res at h
  simp only [zj] at h
  split at h
  ·rename_i r hr
   obtain ⟨l,hl,he,hh,hn,_⟩:=R.rows i r hr
   obtain ⟨e,t,l',h1,rfl⟩:=hs
   have h1':=h1
   rw [hl] at h1
   rw [← he] at h
   have h2:=z45 (.sl r.e r.t) l p
   rw [h1] at h2
   have h3:sub (.sl r.e r.t) (erase (.sl r.e r.t) l) p=some v:=h
   rw [h3] at h2
   cases h2
   exact ⟨e,t,l',h1',rfl,(subL_holds h1 hh).1,rfl⟩
  ·cases h

theorem zd1 {F:Frz} {w:World} {e:TypeId} {t:Ty} {l:L (.sl e t)} (h:holds F w (.sl e t) l) {n:Nat} (hn:n<l.2.2.length):∃ g,l.1=some g:=by
 have h1:=h.1
 cases hx:l.1 with
 | none=>rw [hx] at h1; rw [h1.1] at hn; simp at hn
 | some g=>exact ⟨g,rfl⟩

theorem z88 {n m:Nat} (h:(Nat.beq n m&&!Nat.beq n 0)=true):n=m∧m≠0:=by
 simp only [Bool.and_eq_true,Bool.not_eq_true'] at h
 have e:=Nat.eq_of_beq_eq_true h.1
 exact ⟨e,by rw [← e]; exact z48 h.2⟩

theorem zmc (R:Rep E w0 ok O σ tm w M) (hat:a.tmps=tm) (T:zb P E.ti=true) {o:Oper} {xt:TypeId} {x y:Operand} (hop:o.op=.indexAddr xt x y) {out:Out} (h:ze E σ o=some out):z10 P E w0 ok σ w M a o out:=by
 unfold ze z12 at h
 rw [hop] at h
 simp only [] at h
 have hex:∀ {v:Value},(Instr.indexAt xt (a.eval x) (a.eval y)).run P w=.ok v w→(execOp a.eval o).run P w=.ok (.value v) w:=by
  intro v hv
  unfold execOp
  rw [hop]
  simp only [Sem.run_bind,hv]
  rfl
 split at h
 ·rename_i s k n hs hy
  have hn:=z85 R hat hy
  split at h
  ·rename_i e u xs
   cases hz:(Nat.beq u.sz (E.elemSz xt)&&!Nat.beq u.sz 0) <;> rw [hz] at h
   ·cases h
   ·obtain ⟨z1,z2⟩:=z88 hz
    simp only [cond_true] at h
    split at h
    ·rename_i h0
     obtain ⟨z,hx,h⟩:=Option.bind_eq_some_iff.1 h
     cases h
     obtain ⟨v,hv,hr⟩:=z4l R hat hs rfl
     obtain ⟨A,c,hA,hl,hc⟩:=hr
     cases hA
     have hlt:=(List.getElem?_eq_some_iff.1 hx).1
     obtain ⟨ad,rfl,hok,hcell⟩:=hc (by intro e; rw [e] at hlt; simp at hlt)
     obtain ⟨ds,hd,hcc⟩:=hcell n.toNat z hx
     refine z10.val (t:=.ptr u) (v:=.pointer (some (ad.add (n.toNat*u.sz)))) ⟨_,ds,rfl,by rw [zcd]; exact hok,hd,hcc⟩ rfl (hex ?_)
     rw [hv,hn,z1]
     exact zd0 T z2 h0 (by omega) w
    ·cases h
  ·rename_i j p
   rw [zy] at h
   obtain ⟨v,hv,h⟩:=Option.bind_eq_some_iff.1 h
   obtain ⟨h1,h2⟩:=zz R hat hs
   obtain ⟨cs,h3,h4⟩:=h1
   obtain ⟨e,t,l,h5,rfl,h6,rfl⟩:=zva R hv h3
   simp only [] at h
   cases hz:(Nat.beq t.sz (E.elemSz xt)&&!Nat.beq t.sz 0) <;> rw [hz] at h
   ·cases h
   ·obtain ⟨z1,z2⟩:=z88 hz
    simp only [cond_true] at h
    split at h
    ·rename_i hb
     cases h
     have hlt:n.toNat<l.2.2.length:=by have:=hb.2; simpa [erase] using this
     obtain ⟨g,hg⟩:=zd1 h6 hlt
     rcases h4 with ⟨h7,_⟩ | ⟨_,h7⟩
     ·cases h7
     ·simp only [z8,List.cons.injEq,and_true] at h7
      rw [hg] at h7
      refine ⟨.pointer (some ⟨g,n.toNat*t.sz+0,none⟩),w,M,hex ?_,Ext.pure ⟨_,⟨e,t,l,g,h5,hg,hlt,rfl⟩,.inr ⟨rfl,rfl⟩⟩ ⟨h2.rows,by simp [SV.boxes]⟩⟩
      rw [← h7,hn]
      have:=zd0 T z2 (ad:=⟨g,0,none⟩) (c:=l.2.1) (k:=k) hb.1 ((Int.toNat_lt hb.1).1 hlt) w
      rw [z2v] at this
      rw [z1,Nat.add_zero]
      simpa using this
    ·cases h
  ·rename_i j lo m
   split at h
   ·rename_i r hr
    cases hz:(Nat.beq r.t.sz (E.elemSz xt)&&!Nat.beq r.t.sz 0) <;> rw [hz] at h
    ·cases h
    ·obtain ⟨z1,z2⟩:=z88 hz
     simp only [cond_true] at h
     split at h
     ·rename_i hb
      cases h
      obtain ⟨h1,h2⟩:=zz R hat hs
      obtain ⟨cs,⟨e,t,l,h5,h6,A,c,rfl,hc,hA⟩,h4⟩:=h1
      obtain ⟨l',hl,he,hh,hnd,_⟩:=R.rows j r hr
      rw [hl] at h5
      cases h5
      have hlt:lo+n.toNat<l'.2.2.length:=by omega
      obtain ⟨g,hg⟩:=zd1 hh hlt
      have hA':=hA (.inl (by omega))
      rw [hg] at hA'
      subst hA'
      rcases h4 with ⟨h7,_⟩ | ⟨_,h7⟩
      ·cases h7
      ·simp only [List.cons.injEq,and_true] at h7
       refine ⟨.pointer (some ⟨g,(lo+n.toNat)*r.t.sz+0,none⟩),w,M,hex ?_,Ext.pure ⟨_,⟨r.e,r.t,l',g,by rw [hl]; rfl,hg,hlt,rfl⟩,.inr ⟨rfl,rfl⟩⟩ ⟨h2.rows,by simp [SV.boxes]⟩⟩
       rw [← h7,hn]
       have:=zd0 T z2 (ad:=⟨g,lo*r.t.sz,none⟩) (c:=c) (k:=k) hb.1 ((Int.toNat_lt hb.1).1 hb.2) w
       rw [z2v,← z1,← Nat.add_mul] at this
       rw [Nat.add_zero]
       simpa using this
     ·cases h
   ·cases h
  ·rename_i j
   split at h
   ·rename_i b hb'
    cases hz:(Nat.beq (E.tyOf b.ty).sz (E.elemSz xt)&&(!Nat.beq (E.elemSz xt) 0&&b.c.isCh)) <;> rw [hz] at h
    ·cases h
    ·simp only [Bool.and_eq_true,Bool.not_eq_true'] at hz
     have z1:=Nat.eq_of_beq_eq_true hz.1
     have z2:=z48 hz.2.1
     simp only [cond_true] at h
     split at h
     ·rename_i hb
      cases h
      obtain ⟨h1,h2⟩:=zz R hat hs
      obtain ⟨cs,h3,h4⟩:=h1
      simp only [za] at h3
      subst h3
      obtain ⟨cs',g1,g2,g3⟩:=R.boxes j b hb'
      obtain ⟨g4,g5,_⟩:=g3 hz.2.2
      rcases h4 with ⟨h7,_⟩ | ⟨_,h7⟩
      ·cases h7
      ·simp only [List.cons.injEq,and_true] at h7
       refine ⟨.pointer (some ⟨M.blk j,n.toNat*M.bw j,none⟩),w,M,hex ?_,Ext.pure ⟨_,⟨by rw [g4]; exact hb.2,rfl⟩,.inr ⟨rfl,rfl⟩⟩ ⟨by simp [SV.roots],h2.boxes⟩⟩
       rw [← h7,hn]
       have:=zd0 T z2 (ad:=⟨M.blk j,0,none⟩) (c:=M.bn j) (n:=M.bn j) (k:=k) hb.1 (by rw [g4]; omega) w
       rw [z2v,← z1,← g5] at this
       simpa using this
     ·cases h
   ·cases h
  ·cases h
 ·cases h

theorem zvb (R:Rep E w0 ok O σ tm w M) (hat:a.tmps=tm) (T:zb P E.ti=true) {o:Oper} {xt:TypeId} {x y:Operand} (hop:o.op=.index xt x y) {out:Out} (h:ze E σ o=some out):z10 P E w0 ok σ w M a o out:=by
 unfold ze z12 at h
 rw [hop] at h
 simp only [] at h
 cases hz:E.isStr xt <;> rw [hz] at h
 ·cases h
 simp only [Bool.not_true,cond_false] at h
 have hstr:P.underlying xt=some .string:=by
  unfold Env.isStr at hz
  split at hz
  ·rename_i ht; exact (z96 T ht).1
  ·cases hz
 split at h
 ·rename_i s k n hs hy
  have hn:=z85 R hat hy
  have hv:=zf1 R hat hs
  split at h
  ·rename_i h0
   obtain ⟨b,hx,h⟩:=Option.bind_eq_some_iff.1 h
   cases h
   refine z10.val (t:=.int .u8) (v:=.int .u8 b.toNat) rfl rfl ?_
   unfold execOp
   rw [hop]
   have hlt:=(List.getElem?_eq_some_iff.1 hx).1
   have hsz:(⟨s.toArray⟩:ByteArray).size=s.length:=rfl
   have hb:(⟨s.toArray⟩:ByteArray)[n.toNat]?=some b:=by
    rw [ByteArray.getElem?_lt' _ _ (by rw [hsz]; exact hlt)]
    obtain ⟨h1,h2⟩:=List.getElem?_eq_some_iff.1 hx
    rw [← h2]
    rfl
   simp only [hv,hn,Instr.index,asIntOf,Sem.run_bind,Sem.run_pure,Result.andThen_ok,run_underlying hstr,if_pos h0,hb]
  ·cases h
 ·cases h
end

section
variable {P : Program} {E : Env} {w0 : World} {ok O : Nat → Prop} {σ : St} {tm : Array Value} {w : World} {M : Map} {a : Act}

theorem zmd (T:zb P E.ti=true) {t:TypeId} (h:(E.tyOf t).sz≠0) (hs:(E.tyOf t).isSt=false):(E.tyOf t).sz=1:=by
 obtain ⟨ti,k1,k2,k3⟩:=z49 T h
 have hsh:=(z2f T k1 k3).2
 rw [← k2] at hs ⊢
 unfold z3c at hsh
 split at hsh <;> first | (rename_i _ _ g; rw [g]; rfl) | (rename_i _ _ g; rw [g] at hs; cases hs) | cases hsh

theorem zax (T:zb P E.ti=true) {t:TypeId} {s:SV} {ds:List Value} {ad:Addr} (hr:za w0 ok M s ds) (hk:s.isSt=(E.tyOf t).isSt) (hl:ds.length=(E.tyOf t).sz) (h0:(E.tyOf t).sz≠0) (hc:z2a w ad ds) :
  ∃ v,(loadVar t ad).run P w=.ok v w∧z2h s v ds:=by
 cases hst:(E.tyOf t).isSt with
 | true=>exact ⟨.agg ds.toArray,zm2 T h0 hc hl (.inl ⟨hst,rfl⟩),.inl ⟨by rw [hk,hst],rfl⟩⟩
 | false =>
  have h1:=zmd T h0 hst
  rw [h1] at hl
  match ds,hl with
  | [v],_=>exact ⟨v,zm2 T h0 hc (by rw [h1]; rfl) (.inr ⟨hst,rfl⟩),.inr ⟨by rw [hk,hst],rfl⟩⟩

theorem z66 (t:Ty) (x:t.T):(SV.val t x).isSt=t.isSt:=by cases t <;> rfl

theorem zf3 {want u:Ty} {x:u.T} {v:SVal} (h:zet want u x=some v):(u=want∧v=⟨u,x⟩)∨(u=.st want∧∃ h:u.T=want.T,v=⟨want,cast h x⟩):=by
 unfold zet z6w at h
 split at h
 ·rename_i e; cases h; exact .inl ⟨e,rfl⟩
 ·split at h
  ·split at h
   ·rename_i e; cases h; subst e; exact .inr ⟨rfl,rfl,rfl⟩
   ·cases h
  ·cases h

theorem zvc:∀ (t:Ty) (x:t.T) (i:Nat) (p:List Step),(z2g t x i p).isSt=t.isSt
 | .sl _ _,_,_,_=>rfl
 | .st t,x,i,p=>by simp only [z2g]; cases t.flat <;> rfl
 | .pr _ _,_,_,_=>rfl
 | .int _,_,_,_=>rfl
 | .bool,_,_,_=>rfl
 | .str,_,_,_=>rfl
 | .ptr _,_,_,_=>rfl
 | .un,_,_,_=>rfl
 | .fn _ _,_,_,_=>rfl
 | .fs _,_,_,_=>rfl
 | .rd _,_,_,_=>rfl
theorem zf4:∀ (t:Ty) (x:t.T) (i:Nat) (p:List Step),(∀ j∈(z2g t x i p).roots,j=i)∧(z2g t x i p).boxes=[]
 | .sl _ _,_,_,_=>⟨by simp [z2g,SV.roots],rfl⟩
 | .st t,x,i,p=>by
  simp only [z2g]
  cases t.flat
  ·exact zf4 t x i (p++[.u])
  ·exact ⟨by simp [SV.roots],rfl⟩
 | .pr a b,x,i,p=>by
  obtain ⟨h1,h2⟩:=zf4 a x.1 i (p++[.f false])
  obtain ⟨h3,h4⟩:=zf4 b x.2 i (p++[.f true])
  refine ⟨fun j hj=>?_,by simp [z2g,SV.boxes,h2,h4]⟩
  simp only [z2g,SV.roots,List.mem_append] at hj
  rcases hj with hj | hj
  ·exact h1 j hj
  ·exact h3 j hj
 | .int _,_,_,_=>⟨by simp [z2g,SV.roots],rfl⟩
 | .bool,_,_,_=>⟨by simp [z2g,SV.roots],rfl⟩
 | .str,_,_,_=>⟨by simp [z2g,SV.roots],rfl⟩
 | .ptr _,_,_,_=>⟨by simp [z2g,SV.roots],rfl⟩
 | .un,_,_,_=>⟨by simp [z2g,SV.roots],rfl⟩
 | .fn _ _,_,_,_=>⟨by simp [z2g,SV.roots],rfl⟩
 | .fs _,_,_,_=>⟨by simp [z2g,SV.roots],rfl⟩
 | .rd _,_,_,_=>⟨by simp [z2g,SV.roots],rfl⟩

theorem zd2 {w w':World} {ok:Nat→Prop}:∀ {t:Ty} (l:L t),t.flat=true→Rd w' ok t (erase t l) (z8 t l)
 | .int _,_,_=>rfl
 | .bool,_,_=>rfl
 | .str,_,_=>rfl
 | .st t,l,h=>zd2 (w:=w) (t:=t) l h
 | .pr a b,l,h=>by
  simp only [Ty.flat,Bool.and_eq_true] at h
  exact ⟨_,_,rfl,zd2 (w:=w) l.1 h.1,zd2 (w:=w) l.2 h.2⟩
 | .sl _ _,_,h=>by cases h

theorem zd3 {i:Nat}:∀ (t:Ty) (l:L t) (p:List Step),holds (Rd w0 ok) w t l→zr (M.loc i).1 (M.loc i).2 p=some ⟨t,l⟩→za w0 ok M (z2g t (erase t l) i p) (z8 t l)
 | .sl e t,l,p,_,h=>⟨e,t,l,h,rfl⟩
 | .st t,l,p,hh,h=>by
  simp only [z2g]
  cases hf:t.flat
  ·have h2:zr (M.loc i).1 (M.loc i).2 (p++[.u])=some ⟨t,l⟩:=by
    rw [z63,h]
    exact z2y t l
   exact zd3 t l (p++[.u]) hh h2
  ·exact zd2 (w:=w0) (t:=t) l hf
 | .pr a b,l,p,hh,h=>by
  have h1:zr (M.loc i).1 (M.loc i).2 (p++[.f false])=some ⟨a,l.1⟩:=by
   rw [z63,h]
   exact z2y a l.1
  have h2:zr (M.loc i).1 (M.loc i).2 (p++[.f true])=some ⟨b,l.2⟩:=by
   rw [z63,h]
   exact z2y b l.2
  exact ⟨_,_,rfl,zd3 a l.1 _ hh.1 h1,zd3 b l.2 _ hh.2 h2⟩
 | .int _,l,p,_,h=>rfl
 | .bool,l,p,_,h=>rfl
 | .str,l,p,_,h=>rfl
 | .un,l,p,_,h=>rfl
 | .rd _,l,p,hh,h=>hh

theorem zvd {R:Type} {rc:SV→((u:Ty)→u.T→Option R)→Option R} {t:Ty} {s:SV} {k:List t.T→Option R} {r:R} (h:lsC rc t s k=some r):s.isCh=true:=by
 cases s <;> first | rfl | cases h

theorem zve (R:Rep E w0 ok O σ tm w M) {d j:Nat} {e:TypeId} {u:Ty} {xs:(Ty.sl e u).T} (hv:res E σ d (.ls j)=some ⟨.sl e u,xs⟩):M.bw j=u.sz:=by
 cases d with
 | zero=>cases hv
 | succ d =>
  unfold res at hv
  simp only [zj] at hv
  split at hv
  ·rename_i b hb
   obtain ⟨cs',g1,g2,g3⟩:=R.boxes j b hb
   have hch:=zvd hv
   have hv2:=(z94 (fun s k=>zj E σ d s k) (fun s k=>zy E σ d s k) (E.tyOf b.ty) b.c (fun xs=>some (SVal.mk (.sl b.ty (E.tyOf b.ty)) xs))).symm.trans hv
   obtain ⟨zs,hzs,hzz⟩:=Option.bind_eq_some_iff.1 hv2
   cases hzz
   exact (g3 hch).2.1
  ·cases hv

theorem zis (R:Rep E w0 ok O σ tm w M) (hat:a.tmps=tm) (T:zb P E.ti=true) {o:Oper} {t:TypeId} {x:Operand} (hop:o.op=.load t x) {out:Out} (h:ze E σ o=some out):∃ v,(execOp a.eval o).run P w=.ok (.value v) w∧zi w0 ok M out.1 v∧Live σ out.1∧out.2.1=[]∧out.2.2=[]:=by
 unfold ze z12 at h
 rw [hop] at h
 simp only [] at h
 have hz:Nat.beq (E.tyOf t).sz 0=false:=by
  cases hz:Nat.beq (E.tyOf t).sz 0 with
  | false=>rfl
  | true=>rw [hz] at h; cases h
 have h0:=z48 hz
 rw [hz] at h
 simp only [cond_false] at h
 have hex:∀ {ad:Addr} {v:Value},a.eval x=.pointer (some ad)→(loadVar t ad).run P w=.ok v w→(execOp a.eval o).run P w=.ok (.value v) w:=by
  intro ad v hv hl
  unfold execOp
  rw [hop]
  simp only [hv,Instr.loadAt,Instr.sureAddr,Sem.run_bind,Sem.run_pure,Result.andThen_ok,hl]
 split at h
 ·rename_i u y hs
  rw [zcq] at h
  obtain ⟨v,hv,h⟩:=Option.bind_eq_some_iff.1 h
  cases h
  obtain ⟨va,he,hr⟩:=z4l R hat hs rfl
  have hr':=R.rd hr
  obtain ⟨ad,ds,hp,hok,hrd,hc⟩:=hr'
  obtain ⟨ad',ds',hp',_,hrd0,hc0⟩:=hr
  rw [hp] at hp'
  cases hp'
  have hlen:=Rd.len hrd0
  have hc1:z2a w ad ds':=hc0.move (R.ok_kept hok)
  cases hp
  have hrep:za w0 ok M (.val v.t v.x) ds'∧v.t=(E.tyOf t).strip:=by
   rcases zf3 hv with ⟨e,rfl⟩ | ⟨e,e2,rfl⟩
   ·exact ⟨hrd0,e⟩
   ·subst e
    exact ⟨hrd0,rfl⟩
  obtain ⟨hrep,hty⟩:=hrep
  obtain ⟨q,hq,hw⟩:=zax T hrep (by rw [z66,hty,zim (zil T t)]) (by rw [za.len hrep]; show v.t.sz=_; rw [hty,z61]) h0 hc1
  exact ⟨q,hex he hq,z1m hrep hw,z2s _ _,rfl,rfl⟩
 ·rename_i j q c hs
  split at h
  ·rename_i b hb
   split at h
   ·rename_i s hp
    cases hk:(Nat.beq (b.c.offP q) c&&(s.fit (E.tyOf t)).okW (E.tyOf t)) <;> rw [hk] at h
    ·cases h
    ·cases h
     simp only [Bool.and_eq_true] at hk
     obtain ⟨k1,k2⟩:=hk
     have k1:=Nat.eq_of_beq_eq_true k1
     obtain ⟨k3,k4,k5,_⟩:=zcz k2
     obtain ⟨cs',g1,g2,g3⟩:=R.boxes j b hb
     obtain ⟨h1,h2⟩:=zz R hat hs
     obtain ⟨cs,h3,h4⟩:=h1
     simp only [za] at h3
     subst h3
     have hv:a.eval x=.pointer (some ⟨M.blk j,c,none⟩):=by
      rcases h4 with ⟨h5,_⟩ | ⟨_,h5⟩
      ·cases h5
      ·simp only [List.cons.injEq,and_true] at h5; exact h5.symm
     have hnc:b.c.isCh=false:=by
      cases hc:b.c with
      | nl =>
       rw [hc] at hp
       cases q with
       | nil=>cases hp; exact absurd k4.symm k5
       | cons x y=>cases hp
      | cns x y =>
       rw [hc] at hp
       cases q with
       | nil=>cases hp; exact absurd k4.symm k5
       | cons x y=>cases hp
      | _=>rfl
     obtain ⟨p1,p2,ds,rfl,e1,e2⟩:=z78 (zaq g1 hnc) hp
     have hf:=zih (t:=E.tyOf t) e2
     have hcell:=(zar g2).mid
     rw [e1,k1,Nat.zero_add] at hcell
     obtain ⟨q,hq,hw⟩:=zax T hf k3 (by rw [za.len hf,k4]) h0 hcell
     refine ⟨q,hex hv hq,z1m hf hw,?_,rfl,rfl⟩
     have hl:=zir hp (R.liveB j b hb)
     have key:∀ s:SV,Live σ s→Live σ (s.fit (E.tyOf t)):=by
      intro s hl
      induction s with
      | val u x=>cases u <;> simp only [SV.fit] <;> first | exact z2s _ _ | (cases (E.tyOf t).isSt <;> exact z2s _ _)
      | st s ih =>
       simp only [SV.fit]
       cases (E.tyOf t).isSt
       ·exact ih ⟨hl.rows,hl.boxes⟩
       ·exact hl
      | _=>exact hl
     exact key s hl
   ·cases h
  ·cases h
 ·rename_i j q n f c hs
  split at h
  ·rename_i r hr
   rw [z2r] at h
   obtain ⟨⟨t1,x1⟩,hu,h⟩:=Option.bind_eq_some_iff.1 h
   simp only [] at h
   split at h
   ·-- an element that is only read
    rename_i t1 x1
    split at h
    ·rename_i v0 y0 hp
     cases ho:Nat.beq ((SV.val t1 x1).offP f) c <;> rw [ho] at h
     ·cases h
     ·simp only [cond_true] at h
      rw [zcq] at h
      obtain ⟨v,hv,h⟩:=Option.bind_eq_some_iff.1 h
      cases h
      have ho:=Nat.eq_of_beq_eq_true ho
      obtain ⟨l,hl,he,hh,hn,_⟩:=R.rows j r hr
      obtain ⟨h1,h2⟩:=zz R hat hs
      obtain ⟨cs,⟨e,t',l',g,h5,hg,hlt,rfl⟩,h4⟩:=h1
      have hv':a.eval x=.pointer (some ⟨g,n*t'.sz+c,none⟩):=by
       rcases h4 with ⟨h6,_⟩ | ⟨_,h6⟩
       ·cases h6
       ·simp only [List.cons.injEq,and_true] at h6; exact h6.symm
      rw [hl] at h5
      rw [← he] at hu
      have hy:l'.2.2[n]?=some l'.2.2[n]:=List.getElem?_eq_getElem hlt
      rw [z45,zat h5,hy,Option.bind_some,z2y] at hu
      obtain ⟨h6,h7⟩:=subL_holds h5 hh
      have hcell:=zas h6 hg hy
      have hel:=h6.2 _ (List.getElem_mem hlt)
      simp only [Option.map_some,zcs,Option.some.injEq] at hu
      generalize l'.2.2[n]=y at hu hcell hel
      injection hu with hu1 hu2
      subst hu1
      have hu2:=eq_of_heq hu2
      subst hu2
      obtain ⟨pa,pc,ds,e1,e2,e3⟩:=z78 (M:=M) (s:=.val t1 y.1.1) hel hp
      have e1:z8 (.rd t1) y=pa++ds++pc:=e1
      rw [e1] at hcell
      have hcell:=hcell.mid
      have ho:(SV.val t1 y.1.1).offP f=c:=ho
      rw [e2,ho] at hcell
      have hrep:za w0 ok M (.val v.t v.x) ds∧v.t=(E.tyOf t).strip:=by
       rcases zf3 hv with ⟨e,rfl⟩ | ⟨e,e2,rfl⟩
       ·exact ⟨e3,e⟩
       ·subst e
        exact ⟨e3,rfl⟩
      obtain ⟨hrep,hty⟩:=hrep
      obtain ⟨q',hq,hw⟩:=zax T hrep (by rw [z66,hty,zim (zil T t)]) (by rw [za.len hrep]; show v.t.sz=_; rw [hty,z61]) h0 hcell
      exact ⟨q',hex hv' hq,z1m hrep hw,z2s _ _,rfl,rfl⟩
    ·cases h
   rename_i hnrd
   cases ho:Nat.beq (t1.offP f) c <;> simp only [ho,cond_true,cond_false] at h
   ·cases h
   ·rw [z2r] at h
    obtain ⟨⟨t2,x2⟩,hz2,h⟩:=Option.bind_eq_some_iff.1 h
    rw [zcq] at h
    obtain ⟨v,hv,h⟩:=Option.bind_eq_some_iff.1 h
    cases h
    have ho:=Nat.eq_of_beq_eq_true ho
    obtain ⟨l,hl,he,hh,hn,_⟩:=R.rows j r hr
    obtain ⟨h1,h2⟩:=zz R hat hs
    obtain ⟨cs,⟨e,t',l',g,h5,hg,hlt,rfl⟩,h4⟩:=h1
    have hv':a.eval x=.pointer (some ⟨g,n*t'.sz+c,none⟩):=by
     rcases h4 with ⟨h6,_⟩ | ⟨_,h6⟩
     ·cases h6
     ·simp only [List.cons.injEq,and_true] at h6; exact h6.symm
    have h5':=h5
    rw [hl] at h5
    rw [← he] at hu
    have hy:l'.2.2[n]?=some l'.2.2[n]:=List.getElem?_eq_getElem hlt
    rw [z45,zat h5,hy,Option.bind_some,z2y] at hu
    cases hu
    have hz':sub t' (erase t' l'.2.2[n]) (f.map z3i)=some ⟨t2,x2⟩:=hz2
    rw [z45] at hz'
    obtain ⟨qq,hq,hqe⟩:=Option.map_eq_some_iff.1 hz'
    obtain ⟨qt,ql⟩:=qq
    cases hqe
    obtain ⟨h6,h7⟩:=subL_holds h5 hh
    obtain ⟨pa,pc,e1,e2⟩:=zcu t' _ f _ hq
    have hcell:=zas h6 hg hy
    rw [e1] at hcell
    have hcell:=hcell.mid
    rw [e2,show t'.offP f=c from ho] at hcell
    have hpath:zr (M.loc j).1 (M.loc j).2 (q++.ix n::(f.map z3i))=some ⟨qt,ql⟩:=by
     rw [zat h5',hy]; exact hq
    have hall:za w0 ok M (z2g v.t v.x j (q++.ix n::(f.map z3i++(if qt=E.tyOf t then [] else [.u])))) (z8 qt ql)∧v.t=E.tyOf t:=by
     rcases zf3 hv with ⟨e,rfl⟩ | ⟨e,e3,rfl⟩
     ·refine ⟨?_,e⟩
      rw [if_pos e,List.append_nil]
      exact zd3 _ _ _ (subL_holds (by rw [hl] at hpath; exact hpath) hh).1 hpath
     ·have hne:qt≠E.tyOf t:=by
       intro e4
       have e:qt=.st (E.tyOf t):=e
       rw [e] at e4
       have:∀ u:Ty,Ty.st u≠u:=fun u h=>by have:=congrArg SizeOf.sizeOf h; simp at this
       exact this _ e4
      rw [if_neg hne]
      have e:qt=.st (E.tyOf t):=e
      subst e
      refine ⟨?_,rfl⟩
      have:zr (M.loc j).1 (M.loc j).2 (q++.ix n::(f.map z3i++[.u]))=some ⟨E.tyOf t,ql⟩:=by
       rw [show q++.ix n::(f.map z3i++[.u])=(q++.ix n::(f.map z3i))++[.u] by simp,z63,hpath]
       exact z2y (E.tyOf t) ql
      exact zd3 _ _ _ (subL_holds (by rw [hl] at this; exact this) hh).1 this
    obtain ⟨hrep,hty⟩:=hall
    have hlen:(z8 qt ql).length=(E.tyOf t).sz:=by
     rw [z1s]
     rcases zf3 hv with ⟨e,rfl⟩ | ⟨e,e3,rfl⟩
     ·rw [← hty]
     ·have e:qt=.st (E.tyOf t):=e
      rw [e]; rfl
    obtain ⟨z,hz3,hw⟩:=zax T hrep (by rw [zvc,hty]) hlen h0 hcell
    obtain ⟨m1,m2⟩:=zf4 v.t v.x j (q++.ix n::(f.map z3i++(if qt=E.tyOf t then [] else [.u])))
    exact ⟨z,hex hv' hz3,z1m hrep hw,⟨fun i hi=>⟨r,by rw [m1 i hi]; exact hr⟩,by rw [m2]; simp⟩,rfl,rfl⟩
  ·cases h
 ·rename_i j n hs
  rw [zy] at h
  obtain ⟨⟨t1,x1⟩,hv,h⟩:=Option.bind_eq_some_iff.1 h
  simp only [] at h
  split at h
  ·rename_i e u xs
   split at h
   ·rename_i hcond
    obtain ⟨hwant,hfl⟩:=hcond
    obtain ⟨y,hy,h⟩:=Option.bind_eq_some_iff.1 h
    cases h
    obtain ⟨h1,h2⟩:=zz R hat hs
    obtain ⟨cs,⟨hlt,h3⟩,h4⟩:=h1
    have hv':a.eval x=.pointer (some ⟨M.blk j,n*M.bw j,none⟩):=by
     rcases h4 with ⟨h5,_⟩ | ⟨_,h5⟩
     ·cases h5
     ·rw [h3] at h5
      simp only [List.cons.injEq,and_true] at h5; exact h5.symm
    have hrd:=z79 R depth (.ls j) ⟨.sl e u,xs⟩ [.slice (some ⟨M.blk j,0,none⟩) (M.bn j) (M.bn j)] hv rfl
    obtain ⟨A,cc,hA,hl,hx⟩:=hrd
    simp only [List.cons.injEq,Value.slice.injEq,and_true] at hA
    obtain ⟨hA1,hA2,hA3⟩:=hA
    have hne:xs≠[]:=by intro e; rw [e] at hy; simp at hy
    obtain ⟨ad,had,_,hcell⟩:=hx hne
    rw [had] at hA1
    cases hA1
    obtain ⟨ds,hd,hcc⟩:=hcell n y hy
    have hbw:M.bw j=u.sz:=zve R hv
    rw [z2v,Nat.zero_add,← hbw] at hcc
    have hrep:za w0 ok M (.val u y) ds:=Rd.flat hfl hd
    have hlen:ds.length=(E.tyOf t).sz:=by rw [Rd.len hd,hwant]
    obtain ⟨z,hz3,hw⟩:=zax T hrep (by rw [z66,hwant]) hlen h0 hcc
    exact ⟨z,hex hv' hz3,z1m hrep hw,z2s _ _,rfl,rfl⟩
   ·cases h
  ·cases h
 ·cases h

theorem zvf (R:Rep E w0 ok O σ tm w M) (hat:a.tmps=tm) (T:zb P E.ti=true) {o:Oper} {t:TypeId} {x:Operand} (hop:o.op=.load t x) {out:Out} (h:ze E σ o=some out):z10 P E w0 ok σ w M a o out:=by
 obtain ⟨v,h1,h2,h3,h4,h5⟩:=zis R hat T hop h
 obtain ⟨s,nr,nb⟩:=out
 obtain rfl:nr=[]:=h4
 obtain rfl:nb=[]:=h5
 exact ⟨v,w,M,h1,Ext.pure h2 h3⟩

def Bd (v:Option Value) (d n:Int):Prop:=(v=none∧n=d)∨∃ k,v=some (.int k n)
theorem z67 (R:Rep E w0 ok O σ tm w M) (hat:a.tmps=tm) {x:Option Operand} {d n:Int} (h:zev E σ x d=some n):Bd (x.map a.eval) d n:=by
 unfold zev z31 at h
 split at h
 ·cases h; exact .inl ⟨rfl,rfl⟩
 ·rename_i y
  split at h
  ·rename_i k m hm
   cases h
   exact .inr ⟨k,by rw [Option.map_some,z85 R hat hm]⟩
  ·cases h
theorem zme {b:Bool} {len cap:Nat} {lo hi:Option Value} {l h:Int} (hl:Bd lo 0 l) (hh:Bd hi len h) (h0:0≤l) (h1:l≤h) (hhc:h≤(cap:Int)) :
  (Instr.sliceBounds b len cap lo hi none).run P w=.ok (l.toNat,h.toNat,cap) w:=by
 have hlt:l≤(h.toNat:Int):=by omega
 have hh0:0≤h:=by omega
 rcases hl with ⟨rfl,rfl⟩ | ⟨k,rfl⟩ <;> rcases hh with ⟨rfl,rfl⟩ | ⟨k',rfl⟩
 ·simp [Instr.sliceBounds]
 ·simp [Instr.sliceBounds,run_sliceBound _ _ _ _ _ hh0 hhc,Result.andThen]
 ·have:l≤(len:Int):=by omega
  simp [Instr.sliceBounds,run_sliceBound _ _ _ _ _ h0 this,Result.andThen]
 ·simp only [Instr.sliceBounds,Sem.run_bind,Sem.run_pure,Result.andThen_ok,run_sliceBound _ _ _ _ _ hh0 hhc,run_sliceBound _ _ _ _ _ h0 hlt]

theorem zmf {b:Bool} {len cap:Nat} {lo hi:Option Value} {l h:Int} (hl:Bd lo 0 l) (hh:Bd hi len h) (h0:0≤l) (h1:l≤h) (h2:h≤len) (h3:len≤cap) :
  (Instr.sliceBounds b len cap lo hi none).run P w=.ok (l.toNat,h.toNat,cap) w:=zme hl hh h0 h1 (by omega)

theorem zvg (T:zb P E.ti=true) {t:TypeId} (hz:E.elemSz t≠0) {A:Option Addr} {len cap:Nat} {lo hi:Option Value} {l h:Int} (hl:Bd lo 0 l) (hh:Bd hi len h) (h0:0≤l) (h1:l≤h) (h2:h≤(cap:Int)) :
  (Instr.sliceAt t (.slice A len cap) lo hi none).run P w=.ok (.slice (if cap=l.toNat then A else A.map (·.add (l.toNat*E.elemSz t))) (h.toNat-l.toNat) (cap-l.toNat)) w:=by
 obtain ⟨e,e1,e2,_⟩:=zf2 T hz w
 simp only [Instr.sliceAt,Instr.slice,Sem.run_bind,run_underlying e1,Result.andThen_ok,zme hl hh h0 h1 h2,e2]
 rfl

theorem zmg (T:zb P E.ti=true) {t:TypeId} (hz:E.elemSz t≠0) {A:Option Addr} {len cap:Nat} {lo hi:Option Value} {l h:Int} (hl:Bd lo 0 l) (hh:Bd hi len h) (h0:0≤l) (h1:l≤h) (h2:h≤len) (h3:len≤cap) :
  (Instr.sliceAt t (.slice A len cap) lo hi none).run P w=.ok (.slice (if cap=l.toNat then A else A.map (·.add (l.toNat*E.elemSz t))) (h.toNat-l.toNat) (cap-l.toNat)) w:=by
 obtain ⟨e,e1,e2,_⟩:=zf2 T hz w
 simp only [Instr.sliceAt,Instr.slice,Sem.run_bind,run_underlying e1,Result.andThen_ok,zmf hl hh h0 h1 h2 h3,e2]
 rfl

theorem zmh (R:Rep E w0 ok O σ tm w M) (hat:a.tmps=tm) (T:zb P E.ti=true) {o:Oper} {t:TypeId} {x:Operand} {lo hi mx:Option Operand} (hop:o.op=.slice t x lo hi mx) {out:Out} (h:ze E σ o=some out):z10 P E w0 ok σ w M a o out:=by
 unfold ze z12 at h
 rw [hop] at h
 simp only [] at h
 cases hm:mx with
 | some mv =>
  rw [hm] at h
  simp only [Option.isSome_some,cond_true] at h
  split at h
  ·rename_i j hi' hs
   split at h
   ·rename_i r hr
    cases hz:(Nat.beq r.t.sz (E.elemSz t)&&!Nat.beq r.t.sz 0) <;> rw [hz] at h
    ·cases h
    obtain ⟨z1,z2⟩:=z88 hz
    simp only [Bool.not_true,cond_false] at h
    rw [z2x] at h
    obtain ⟨l,hl,h⟩:=Option.bind_eq_some_iff.1 h
    rw [z2x] at h
    obtain ⟨u,hu,h⟩:=Option.bind_eq_some_iff.1 h
    rw [z2x] at h
    obtain ⟨m,hm',h⟩:=Option.bind_eq_some_iff.1 h
    split at h
    ·rename_i hb
     cases h
     obtain ⟨q,hq,he,hh,hn,_⟩:=R.rows j r hr
     obtain ⟨h1,h2⟩:=zz R hat hs
     obtain ⟨cs,⟨e,t',l',h5,rfl⟩,h4⟩:=h1
     rw [hq,z2y] at h5
     cases h5
     have hxl:r.xs.length=q.2.2.length:=by rw [← he]; simp [erase]
     have hv:a.eval x=.slice (q.1.map fun g=>⟨g,0,none⟩) q.2.2.length q.2.1:=by
      rcases h4 with ⟨h6,_⟩ | ⟨_,h6⟩
      ·cases h6
      ·simp only [z8,List.cons.injEq,and_true] at h6; exact h6.symm
     have hcap:q.2.2.length≤q.2.1:=by
      have h1:=hh.1
      cases hx:q.1 with
      | none=>rw [hx] at h1; simp [h1.1]
      | some b=>rw [hx] at h1; obtain ⟨cur,fz,_,h2,_⟩:=h1; exact h2
     obtain ⟨e9,e1,e2,_⟩:=zf2 T z2 w
     have bu:=z67 R hat hu
     have bm:=z67 R hat hm'
     have bl:=z67 R hat hl
     simp only [Option.map_some] at bu bm
     obtain ⟨ku,hku⟩:∃ k,a.eval hi'=.int k u:=by rcases bu with ⟨h,_⟩ | ⟨k,h⟩; cases h; exact ⟨k,Option.some.inj h⟩
     obtain ⟨km,hkm⟩:∃ k,a.eval mv=.int k m:=by rcases bm with ⟨h,_⟩ | ⟨k,h⟩; cases h; exact ⟨k,Option.some.inj h⟩
     have hmc:m≤((q.2.1:Nat):Int):=by have:=hb.2.2.2; omega
     have hum:u≤((m.toNat:Nat):Int):=by have:=hb.2.2.1; omega
     have hlu:l≤((u.toNat:Nat):Int):=by have:=hb.2.1; omega
     have s1:∀ code,(Instr.sliceBound (.int km m) q.2.1 code).run P w=.ok m.toNat w:=fun code=>run_sliceBound w km m _ code (by omega) hmc
     have s2:∀ code,(Instr.sliceBound (.int ku u) m.toNat code).run P w=.ok u.toNat w:=fun code=>run_sliceBound w ku u _ code (by omega) hum
     have hb0:∃ v,(Instr.sliceAt t (a.eval x) (lo.map a.eval) (some (a.eval hi')) (some (a.eval mv))).run P w=.ok v w:=by
      rw [hv,hku,hkm]
      rcases bl with ⟨hl0,rfl⟩ | ⟨kl,hl0⟩
      ·rw [hl0]
       apply Exists.intro
       simp only [Instr.sliceAt,Instr.slice,Sem.run_bind,run_underlying e1,Result.andThen_ok,Instr.sliceBounds,s1,s2,Sem.run_pure,e2]
       rfl
      ·rw [hl0]
       have s3:∀ code,(Instr.sliceBound (.int kl l) u.toNat code).run P w=.ok l.toNat w:=fun code=>run_sliceBound w kl l _ code hb.1 hlu
       apply Exists.intro
       simp only [Instr.sliceAt,Instr.slice,Sem.run_bind,run_underlying e1,Result.andThen_ok,Instr.sliceBounds,s1,s2,s3,Sem.run_pure,e2]
       rfl
     obtain ⟨v,hb1⟩:=hb0
     refine ⟨v,w,M,?_,Ext.pure trivial ⟨by simp [SV.roots],by simp [SV.boxes]⟩⟩
     unfold execOp
     rw [hop,hm]
     simp only [Option.map_some,Sem.run_bind,hb1]
     rfl
    ·cases h
   ·cases h
  ·cases h
 | none =>
 rw [hm] at h
 simp only [Option.isSome_none,cond_false] at h
 have hex:∀ {v:Value},(Instr.sliceAt t (a.eval x) (lo.map a.eval) (hi.map a.eval) none).run P w=.ok v w→(execOp a.eval o).run P w=.ok (.value v) w:=by
  intro v hv
  unfold execOp
  rw [hop,hm]
  simp only [Option.map_none,Sem.run_bind,hv]
  rfl
 split at h
 ·rename_i s hs
  cases hz:E.isStr t <;> rw [hz] at h
  ·cases h
  simp only [Bool.not_true,cond_false] at h
  have hstr:P.underlying t=some .string:=by
   unfold Env.isStr at hz
   split at hz
   ·rename_i ht; exact (z96 T ht).1
   ·cases hz
  rw [z2x] at h
  obtain ⟨l,hl,h⟩:=Option.bind_eq_some_iff.1 h
  rw [z2x] at h
  obtain ⟨u,hu,h⟩:=Option.bind_eq_some_iff.1 h
  split at h
  ·rename_i hb
   cases h
   have hv:=zf1 R hat hs
   refine z10.val (t:=.str) rfl rfl (hex ?_)
   rw [hv]
   have hb1:=zmf (P:=P) (w:=w) (b:=false) (len:=s.length) (cap:=s.length) (z67 R hat hl) (z67 R hat hu) hb.1 hb.2.1 hb.2.2 (Nat.le_refl _)
   have hsz:(⟨s.toArray⟩:ByteArray).size=s.length:=rfl
   simp only [Instr.sliceAt,Instr.slice,Sem.run_bind,run_underlying hstr,Result.andThen_ok,Option.isSome_none,Bool.false_eq_true,if_false,hsz,hb1,Sem.run_pure]
   congr 2
   apply ByteArray.ext
   rw [ByteArray.data_extract]
   apply Array.ext'
   simp [List.extract_eq_take_drop]
  ·cases h
 ·rename_i e u s hs
  cases hz:(Nat.beq u.sz (E.elemSz t)&&!Nat.beq u.sz 0) <;> rw [hz] at h
  ·cases h
  obtain ⟨z1,z2⟩:=z88 hz
  simp only [Bool.not_true,cond_false] at h
  rw [z2x] at h
  obtain ⟨l,hl,h⟩:=Option.bind_eq_some_iff.1 h
  rw [z2x] at h
  obtain ⟨m,hm',h⟩:=Option.bind_eq_some_iff.1 h
  split at h
  ·rename_i hb
   cases h
   obtain ⟨v,hv,hr⟩:=z4l R hat hs rfl
   obtain ⟨A,c,hA,hlc,hx⟩:=hr
   cases hA
   have hlen:((s.drop l.toNat).take (m.toNat-l.toNat)).length=m.toNat-l.toNat:=by
    simp only [List.length_take,List.length_drop]; omega
   refine z10.val (t:=.sl e u) ⟨_,c-l.toNat,by rw [hlen],by rw [hlen]; omega,fun hne=>?_⟩ rfl (hex (by rw [hv]; exact zmg T z2 (z67 R hat hl) (z67 R hat hm') hb.1 hb.2.1 hb.2.2 hlc))
   have hlt:l.toNat<s.length:=by
    rcases Nat.lt_or_ge l.toNat s.length with h | h
    ·exact h
    ·exfalso; apply hne; rw [List.drop_eq_nil_of_le h]; simp
   have hs0:s≠[]:=by intro e; rw [e] at hlt; simp at hlt
   obtain ⟨ad,rfl,hok,hcell⟩:=hx hs0
   rw [if_neg (by omega)]
   refine ⟨_,rfl,by rw [zcd]; exact hok,fun i y hi=>?_⟩
   have hin:i<m.toNat-l.toNat:=by have:=(List.getElem?_eq_some_iff.1 hi).1; omega
   rw [List.getElem?_take_of_lt hin,List.getElem?_drop] at hi
   obtain ⟨ds,hd,hcc⟩:=hcell _ y hi
   refine ⟨ds,hd,?_⟩
   rw [za9,← z1,← Nat.add_mul]
   exact hcc
  ·cases h
 ·rename_i j hs
  split at h
  ·rename_i r hr
   cases hz:(Nat.beq r.t.sz (E.elemSz t)&&!Nat.beq r.t.sz 0) <;> rw [hz] at h
   ·cases h
   obtain ⟨z1,z2⟩:=z88 hz
   simp only [Bool.not_true,cond_false] at h
   rw [z2x] at h
   obtain ⟨l,hl,h⟩:=Option.bind_eq_some_iff.1 h
   rw [z2x] at h
   obtain ⟨m,hm',h⟩:=Option.bind_eq_some_iff.1 h
   split at h
   ·rename_i hb
    cases h
    obtain ⟨q,hq,he,hh,hn,_⟩:=R.rows j r hr
    obtain ⟨h1,h2⟩:=zz R hat hs
    obtain ⟨cs,⟨e,t',l',h5,rfl⟩,h4⟩:=h1
    rw [hq,z2y] at h5
    cases h5
    have hxl:r.xs.length=q.2.2.length:=by rw [← he]; simp [erase]
    have hv:a.eval x=.slice (q.1.map fun g=>⟨g,0,none⟩) q.2.2.length q.2.1:=by
     rcases h4 with ⟨h6,_⟩ | ⟨_,h6⟩
     ·cases h6
     ·simp only [z8,List.cons.injEq,and_true] at h6; exact h6.symm
    have hcap:q.2.2.length≤q.2.1:=by
     have h1:=hh.1
     cases hx:q.1 with
     | none=>rw [hx] at h1; simp [h1.1]
     | some b=>rw [hx] at h1; obtain ⟨cur,fz,_,h2,_⟩:=h1; exact h2
    rw [hxl] at hm' hb
    refine ⟨_,w,M,hex (by rw [hv]; exact zmg T z2 (z67 R hat hl) (z67 R hat hm') hb.1 hb.2.1 hb.2.2 hcap),Ext.pure (z1m ⟨r.e,r.t,q,hq,by omega,_,_,rfl,by omega,fun hc=>?_⟩ (.inr ⟨rfl,rfl⟩)) ⟨h2.rows,by simp [SV.boxes]⟩⟩
    rw [← z1]
    split
    ·have:l.toNat=0:=by omega
     rw [this]; simp
    ·cases q.1 <;> simp [z2v]
   ·cases h
  ·cases h
 ·rename_i j p n hs
  split at h
  ·rename_i r hr
   cases hz:(Nat.beq r.t.sz (E.elemSz t)&&!Nat.beq r.t.sz 0) <;> rw [hz] at h
   ·cases h
   obtain ⟨z1,z2⟩:=z88 hz
   simp only [Bool.not_true,cond_false] at h
   rw [z2x] at h
   obtain ⟨l,hl,h⟩:=Option.bind_eq_some_iff.1 h
   rw [z2x] at h
   obtain ⟨m,hm',h⟩:=Option.bind_eq_some_iff.1 h
   split at h
   ·rename_i hb
    cases h
    obtain ⟨q,hq,he,hh,hn,_⟩:=R.rows j r hr
    obtain ⟨h1,h2⟩:=zz R hat hs
    obtain ⟨cs,⟨e,t',l',h5,hle,A,c,rfl,hcl,hA⟩,h4⟩:=h1
    rw [hq] at h5
    cases h5
    have hv:a.eval x=.slice A n c:=by
     rcases h4 with ⟨h6,_⟩ | ⟨_,h6⟩
     ·cases h6
     ·simp only [List.cons.injEq,and_true] at h6; exact h6.symm
    have hcap:q.2.2.length≤q.2.1:=by
     have h1:=hh.1
     cases hx:q.1 with
     | none=>rw [hx] at h1; simp [h1.1]
     | some b=>rw [hx] at h1; obtain ⟨cur,fz,_,h2,_⟩:=h1; exact h2
    have hxl:r.xs.length=q.2.2.length:=by rw [← he]; simp [erase]
    have hmc:m≤(c:Int):=by
     rcases hb.2.2 with h | ⟨h,h'⟩
     ·omega
     ·rw [hxl] at h'; omega
    have hend:p+l.toNat+(m.toNat-l.toNat)≤q.2.2.length:=by
     rcases hb.2.2 with h | ⟨h,h'⟩
     ·omega
     ·rw [hxl] at h'; omega
    have hadr:(0<m.toNat-l.toNat∨p+l.toNat=0)→(0<n∨p=0):=by
     intro hc
     rcases hb.2.2 with h | ⟨h,_⟩
     ·omega
     ·exact .inr h
    refine ⟨_,w,M,hex (by rw [hv]; exact zvg T z2 (z67 R hat hl) (z67 R hat hm') hb.1 hb.2.1 hmc),Ext.pure (z1m ⟨r.e,r.t,q,hq,hend,_,_,rfl,by omega,fun hc=>?_⟩ (.inr ⟨rfl,rfl⟩)) ⟨h2.rows,by simp [SV.boxes]⟩⟩
    have hA':=hA (hadr hc)
    subst hA'
    rw [← z1]
    split
    ·have:l.toNat=0:=by omega
     rw [this]; simp
    ·cases q.1 <;> simp [z2v,Nat.add_mul]
   ·cases h
  ·cases h
 ·cases h
end

def zd:Ty→Nat→Nat
 | .sl _ _,n=>n+1
 | .st t,n=>if t.flat=true then n else zd t n
 | .pr a b,n=>zd b (zd a n)
 | _,n=>n
def z15:(t:Ty)→L t→Nat→(Nat→Loc)→(Nat→Loc)
 | .sl e t,l,n,f=>z2j f n ⟨.sl e t,l⟩
 | .st t,l,n,f=>if t.flat=true then f else z15 t l n f
 | .pr a b,l,n,f=>z15 b l.2 (zd a n) (z15 a l.1 n f)
 | .int _,_,_,f=>f
 | .bool,_,_,f=>f
 | .str,_,_,f=>f
 | .ptr _,_,_,f=>f
 | .un,_,_,f=>f
 | .fn _ _,_,_,f=>f
 | .fs _,_,_,f=>f
 | .rd _,_,_,f=>f

theorem z3t:∀ (t:Ty) (n:Nat),n≤zd t n
 | .sl _ _,n=>Nat.le_succ n
 | .st t,n=>by simp only [zd]; split; exact Nat.le_refl _; exact z3t t n
 | .pr a b,n=>Nat.le_trans (z3t a n) (z3t b _)
 | .int _,_=>Nat.le_refl _
 | .bool,_=>Nat.le_refl _
 | .str,_=>Nat.le_refl _
 | .ptr _,_=>Nat.le_refl _
 | .un,_=>Nat.le_refl _
 | .fn _ _,_=>Nat.le_refl _
 | .fs _,_=>Nat.le_refl _
 | .rd _,_=>Nat.le_refl _
theorem z7c:∀ (t:Ty) (x:t.T) (n:Nat),(zo t x n).2.2=zd t n
 | .sl _ _,_,_=>rfl
 | .st t,x,n=>by
  simp only [zo,zd]
  cases hf:t.flat
  ·simp only [cond_false,Bool.false_eq_true,if_false]; exact z7c t x n
  ·simp
 | .pr a b,x,n=>by simp only [zo,zd,z7c a x.1 n,z7c b x.2]
 | .int _,_,_=>rfl
 | .bool,_,_=>rfl
 | .str,_,_=>rfl
 | .ptr _,_,_=>rfl
 | .un,_,_=>rfl
 | .fn _ _,_,_=>rfl
 | .fs _,_,_=>rfl
 | .rd _,_,_=>rfl
theorem z6i:∀ (t:Ty) (l:L t) (n:Nat) (f:Nat→Loc) (i:Nat),i<n∨zd t n≤i→z15 t l n f i=f i
 | .sl _ _,l,n,f,i,h=>z35 _ _ (by simp only [zd] at h; omega)
 | .st t,l,n,f,i,h=>by
  simp only [z15,zd] at h ⊢
  split
  ·rfl
  ·rename_i hf; rw [if_neg hf] at h; exact z6i t l n f i h
 | .pr a b,l,n,f,i,h=>by
  have h1:=z3t a n
  have h2:=z3t b (zd a n)
  simp only [z15,zd] at h ⊢
  rw [z6i b l.2 _ _ i (by omega),z6i a l.1 _ _ i (by omega)]
 | .int _,_,_,_,_,_=>rfl
 | .bool,_,_,_,_,_=>rfl
 | .str,_,_,_,_,_=>rfl
 | .ptr _,_,_,_,_,_=>rfl
 | .un,_,_,_,_,_=>rfl
 | .fn _ _,_,_,_,_,_=>rfl
 | .fs _,_,_,_,_,_=>rfl
 | .rd _,_,_,_,_,_=>rfl

theorem z3n:∀ (t:Ty) (x:t.T) (n i:Nat),(∃ r,lk (zo t x n).2.1 i=some r)↔(n≤i∧i<zd t n)
 | .sl e t,x,n,i=>by
  simp only [zo,zd]
  constructor
  ·rintro ⟨r,hr⟩; have:=(z3m hr).1; omega
  ·intro h; have:i=n:=by omega
   subst this; exact ⟨_,by rw [zn,if_pos rfl]⟩
 | .st t,x,n,i=>by
  simp only [zo,zd]
  cases hf:t.flat
  ·simp only [cond_false,Bool.false_eq_true,if_false]; exact z3n t x n i
  ·simp only [cond_true,if_true]
   exact ⟨fun ⟨r,h⟩=>(nomatch h),fun h=>by omega⟩
 | .pr a b,x,n,i=>by
  have h1:=z3t a n
  have h2:=z3t b (zd a n)
  have ha:=z3n a x.1 n i
  have hb:=z3n b x.2 (zd a n) i
  simp only [zo,zd,z2b,z7c]
  constructor
  ·rintro ⟨r,hr⟩
   cases hq:lk (zo a x.1 n).2.1 i with
   | some r'=>have:=ha.1 ⟨r',hq⟩; omega
   | none=>rw [hq] at hr; have:=hb.1 ⟨r,hr⟩; omega
  ·intro h
   cases hq:lk (zo a x.1 n).2.1 i with
   | some r'=>exact ⟨r',rfl⟩
   | none =>
    have:¬ (n≤i∧i<zd a n):=fun hh=>by obtain ⟨r,hr⟩:=ha.2 hh; rw [hq] at hr; cases hr
    obtain ⟨r,hr⟩:=hb.2 (by omega)
    exact ⟨r,hr⟩
 | .int _,_,_,_=>⟨fun ⟨r,h⟩=>(nomatch h),fun h=>by simp only [zd] at h; omega⟩
 | .bool,_,_,_=>⟨fun ⟨r,h⟩=>(nomatch h),fun h=>by simp only [zd] at h; omega⟩
 | .str,_,_,_=>⟨fun ⟨r,h⟩=>(nomatch h),fun h=>by simp only [zd] at h; omega⟩
 | .ptr _,_,_,_=>⟨fun ⟨r,h⟩=>(nomatch h),fun h=>by simp only [zd] at h; omega⟩
 | .un,_,_,_=>⟨fun ⟨r,h⟩=>(nomatch h),fun h=>by simp only [zd] at h; omega⟩
 | .fn _ _,_,_,_=>⟨fun ⟨r,h⟩=>(nomatch h),fun h=>by simp only [zd] at h; omega⟩
 | .fs _,_,_,_=>⟨fun ⟨r,h⟩=>(nomatch h),fun h=>by simp only [zd] at h; omega⟩
 | .rd _,_,_,_=>⟨fun ⟨r,h⟩=>(nomatch h),fun h=>by simp only [zd] at h; omega⟩

structure Part (t:Ty) (l:L t) (r:Row) (l':L (.sl r.e r.t)):Prop where
 er:erase (.sl r.e r.t) l'=r.xs
 bl:(z6 (.sl r.e r.t) l').Sublist (z6 t l)
 ho:∀ (F:Frz) w,holds F w t l→holds F w (.sl r.e r.t) l'
 pl:∀ w,plain w t l→plain w (.sl r.e r.t) l'

theorem z6j:∀ (t:Ty) (l:L t) (n:Nat) (f:Nat→Loc) (i:Nat) (r:Row),lk (zo t (erase t l) n).2.1 i=some r→r.z=false∧∃ l',z15 t l n f i=⟨.sl r.e r.t,l'⟩∧Part t l r l'
 | .sl e t,l,n,f,i,r,h=>by
  obtain ⟨rfl,rfl⟩:=z3m h
  exact ⟨rfl,l,z1n _ _ _,⟨rfl,List.Sublist.refl _,fun _ _ h=>h,fun _ h=>h⟩⟩
 | .st t,l,n,f,i,r,h=>by
  simp only [zo,z15] at h ⊢
  cases hf:t.flat <;> rw [hf] at h
  ·simp only [cond_false,Bool.false_eq_true,if_false] at h ⊢
   obtain ⟨h1,l',h2,h3⟩:=z6j t l n f i r h
   exact ⟨h1,l',h2,⟨h3.er,h3.bl,h3.ho,h3.pl⟩⟩
  ·cases h
 | .pr a b,l,n,f,i,r,h=>by
  have h1:=z3t a n
  simp only [zo,z15,z2b,z7c] at h ⊢
  cases hq:lk (zo a (erase a l.1) n).2.1 i with
  | some r' =>
   have hq':=hq
   simp only [erase] at h
   rw [hq] at h
   cases h
   obtain ⟨g1,l',g2,g3⟩:=z6j a l.1 n f i r hq'
   have:=(z3n a (erase a l.1) n i).1 ⟨r,hq'⟩
   refine ⟨g1,l',by rw [z6i b l.2 _ _ i (by omega)]; exact g2,⟨g3.er,?_,fun F w h=>g3.ho F w h.1,fun w h=>g3.pl w h.1⟩⟩
   exact g3.bl.trans (List.sublist_append_left _ _)
  | none =>
   simp only [erase] at h
   rw [hq] at h
   obtain ⟨g1,l',g2,g3⟩:=z6j b l.2 (zd a n) (z15 a l.1 n f) i r h
   exact ⟨g1,l',g2,⟨g3.er,g3.bl.trans (List.sublist_append_right _ _),fun F w h=>g3.ho F w h.2,fun w h=>g3.pl w h.2⟩⟩
 | .int _,_,_,_,_,_,h=>by cases h
 | .bool,_,_,_,_,_,h=>by cases h
 | .str,_,_,_,_,_,h=>by cases h
 | .un,_,_,_,_,_,h=>by cases h
 | .rd _,_,_,_,_,_,h=>by cases h

theorem zd4:∀ (t:Ty) (l:L t) (n:Nat) (f:Nat→Loc),(z6 t l).Nodup→∀ i j,i≠j→n≤i→i<zd t n→n≤j→j<zd t n →
  ∀ k∈z6 (z15 t l n f i).1 (z15 t l n f i).2,k∈z6 t l∧k∉z6 (z15 t l n f j).1 (z15 t l n f j).2
 | .sl e t,l,n,f,hn,i,j,hij,h1,h2,h3,h4=>by simp only [zd] at h2 h4; omega
 | .st t,l,n,f,hn,i,j,hij,h1,h2,h3,h4=>by
  simp only [z15,zd] at h2 h4 ⊢
  cases hf:t.flat <;> simp only [hf,Bool.false_eq_true,if_false,if_true] at h2 h4 ⊢
  ·exact zd4 t l n f hn i j hij h1 h2 h3 h4
  ·omega
 | .pr a b,l,n,f,hn,i,j,hij,h1,h2,h3,h4=>by
  have e1:=z3t a n
  have e2:=z3t b (zd a n)
  simp only [zd] at h2 h4
  simp only [z6] at hn
  obtain ⟨na,nb,nd⟩:=List.nodup_append.1 hn
  have sub:∀ i,n≤i→i<zd a n→∀ k∈z6 (z15 a l.1 n f i).1 (z15 a l.1 n f i).2,k∈z6 a l.1:=by
   intro i q1 q2 k hk
   obtain ⟨r,hr⟩:=(z3n a (erase a l.1) n i).2 ⟨q1,q2⟩
   obtain ⟨_,l',g2,g3⟩:=z6j a l.1 n f i r hr
   rw [g2] at hk
   exact g3.bl.subset hk
  have sub2:∀ i,zd a n≤i→i<zd b (zd a n)→∀ k∈z6 (z15 b l.2 (zd a n) (z15 a l.1 n f) i).1 (z15 b l.2 (zd a n) (z15 a l.1 n f) i).2,k∈z6 b l.2:=by
   intro i q1 q2 k hk
   obtain ⟨r,hr⟩:=(z3n b (erase b l.2) (zd a n) i).2 ⟨q1,q2⟩
   obtain ⟨_,l',g2,g3⟩:=z6j b l.2 (zd a n) (z15 a l.1 n f) i r hr
   rw [g2] at hk
   exact g3.bl.subset hk
  intro k hk
  simp only [z15] at hk ⊢
  by_cases hi:i<zd a n
  ·rw [z6i b l.2 _ _ i (by omega)] at hk
   have hka:=sub i h1 hi k hk
   refine ⟨by simp [z6,hka],?_⟩
   by_cases hj:j<zd a n
   ·rw [z6i b l.2 _ _ j (by omega)]
    exact (zd4 a l.1 n f na i j hij h1 hi h3 hj k hk).2
   ·intro hk2
    exact nd _ hka _ (sub2 j (by omega) h4 k hk2) rfl
  ·have hkb:=sub2 i (by omega) h2 k hk
   refine ⟨by simp [z6,hkb],?_⟩
   by_cases hj:j<zd a n
   ·rw [z6i b l.2 _ _ j (by omega)]
    intro hk2
    exact nd _ (sub j h3 hj k hk2) _ hkb rfl
   ·exact (zd4 b l.2 (zd a n) (z15 a l.1 n f) nb i j hij (by omega) h2 (by omega) h4 k hk).2
 | .int _,_,n,_,_,i,j,hij,h1,h2,h3,h4=>by simp only [zd] at h2; omega
 | .bool,_,n,_,_,i,j,hij,h1,h2,h3,h4=>by simp only [zd] at h2; omega
 | .str,_,n,_,_,i,j,hij,h1,h2,h3,h4=>by simp only [zd] at h2; omega
 | .un,_,n,_,_,i,j,hij,h1,h2,h3,h4=>by simp only [zd] at h2; omega
 | .rd _,_,n,_,_,i,j,hij,h1,h2,h3,h4=>by simp only [zd] at h2; omega

section
variable {P : Program} {E : Env} {w0 : World} {ok O : Nat → Prop} {σ : St} {tm : Array Value} {w : World} {M : Map} {a : Act}

theorem z7d:∀ (t:Ty) (l:L t) (n:Nat) (f:Nat→Loc),holds (Rd w0 ok) w t l→(∀ i,n≤i→i<zd t n→M.loc i=z15 t l n f i)→za w0 ok M (zo t (erase t l) n).1 (z8 t l)
 | .sl e t,l,n,f,_,h=>⟨e,t,l,by rw [h n (Nat.le_refl _) (Nat.lt_succ_self _)]; exact (congrArg (fun z:Loc=>zr z.1 z.2 []) (z1n f n ⟨.sl e t,l⟩)).trans rfl,rfl⟩
 | .st t,l,n,f,hh,h=>by
  simp only [zo,z15,zd] at h ⊢
  cases hf:t.flat <;> simp only [hf,Bool.false_eq_true,if_false,if_true,cond_true,cond_false] at h ⊢
  ·exact z7d t l n f hh h
  ·exact zd2 (w:=w0) (t:=t) l hf
 | .pr a b,l,n,f,hh,h=>by
  have e1:=z3t a n
  have e2:=z3t b (zd a n)
  simp only [z15,zd] at h
  refine ⟨z8 a l.1,z8 b l.2,rfl,z7d a l.1 n f hh.1 fun i h1 h2=>?_,?_⟩
  ·rw [h i h1 (by omega),z6i b l.2 _ _ i (by omega)]
  ·simp only [z7c]
   exact z7d b l.2 (zd a n) (z15 a l.1 n f) hh.2 fun i h1 h2=>h i (by omega) h2
 | .int _,l,n,f,_,h=>rfl
 | .bool,l,n,f,_,h=>rfl
 | .str,l,n,f,_,h=>rfl
 | .un,l,n,f,_,h=>rfl
 | .rd _,l,n,f,hh,h=>hh

theorem z7e:∀ (t:Ty) (x:t.T) (n:Nat),(∀ i∈(zo t x n).1.roots,n≤i∧i<zd t n)∧(zo t x n).1.boxes=[]
 | .sl e t,x,n=>⟨by simp [zo,SV.roots,zd],rfl⟩
 | .st t,x,n=>by
  simp only [zo,zd]
  cases hf:t.flat
  ·simp only [cond_false,Bool.false_eq_true,if_false]; exact z7e t x n
  ·exact ⟨by simp [SV.roots],rfl⟩
 | .pr a b,x,n=>by
  have e1:=z3t a n
  have e2:=z3t b (zd a n)
  obtain ⟨h1,h2⟩:=z7e a x.1 n
  obtain ⟨h3,h4⟩:=z7e b x.2 (zd a n)
  simp only [zo,z7c,zd]
  refine ⟨fun i hi=>?_,by simp [SV.boxes,h2,h4]⟩
  simp only [SV.roots,List.mem_append] at hi
  rcases hi with hi | hi
  ·have:=h1 i hi; omega
  ·have:=h3 i hi; omega
 | .int _,_,_=>⟨by simp [zo,SV.roots],rfl⟩
 | .bool,_,_=>⟨by simp [zo,SV.roots],rfl⟩
 | .str,_,_=>⟨by simp [zo,SV.roots],rfl⟩
 | .ptr _,_,_=>⟨by simp [zo,SV.roots],rfl⟩
 | .un,_,_=>⟨by simp [zo,SV.roots],rfl⟩
 | .fn _ _,_,_=>⟨by simp [zo,SV.roots],rfl⟩
 | .fs _,_,_=>⟨by simp [zo,SV.roots],rfl⟩
 | .rd _,_,_=>⟨by simp [zo,SV.roots],rfl⟩
theorem zf5:∀ (t:Ty) (x:t.T) (n:Nat),(zo t x n).1.isSt=t.isSt
 | .sl _ _,_,_=>rfl
 | .st t,x,n=>by simp only [zo]; cases t.flat <;> rfl
 | .pr _ _,_,_=>rfl
 | .int _,_,_=>rfl
 | .bool,_,_=>rfl
 | .str,_,_=>rfl
 | .ptr _,_,_=>rfl
 | .un,_,_=>rfl
 | .fn _ _,_,_=>rfl
 | .fs _,_,_=>rfl
 | .rd _,_,_=>rfl

theorem Ext.newRows {t:Ty} {l:L t} (n:Nat) {w':World} {s:SV} {v:Value} (hk:Kept (fun _=>False) w w') (hh:holds (Rd w0 ok) w' t l) (hp:plain w' t l) (hn:(z6 t l).Nodup) (hg:∀ k∈z6 t l,w.heap.size≤k)
  (hs:zi w0 ok { M with loc:=z15 t l n M.loc } s v) (hl:(∀ i∈s.roots,n≤i∧i<zd t n)∧s.boxes=[]) :
  Ext E w0 ok σ w M s (zo t (erase t l) n).2.1 [] v w' { M with loc:=z15 t l n M.loc } where
 val:=hs
 kept:=hk
 locO:=fun i hi=>z6i t l n M.loc i (by
  rcases Nat.lt_or_ge i n with h | h
  ·exact .inl h
  ·rcases Nat.lt_or_ge i (zd t n) with h' | h'
   ·obtain ⟨r,hr⟩:=(z3n t (erase t l) n i).2 ⟨h,h'⟩
    rw [hi] at hr; cases hr
   ·exact .inr h')
 blkO:=fun _ _=>⟨rfl,rfl,rfl⟩
 rows:=fun i r hr=>by
  obtain ⟨hz,l',h1,h2⟩:=z6j t l n M.loc i r hr
  exact ⟨l',h1,h2.er,h2.ho _ _ hh,h2.bl.nodup hn,fun _=>h2.pl _ hp,fun k hk=>hg k (h2.bl.subset hk)⟩
 rr:=fun i j hij hi hj k hk=>by
  obtain ⟨h1,h2⟩:=(z3n t (erase t l) n i).1 hi
  obtain ⟨h3,h4⟩:=(z3n t (erase t l) n j).1 hj
  exact (zd4 t l n M.loc hn i j hij h1 h2 h3 h4 k hk).2
 boxes:=fun j b h=>by cases h
 bb:=fun j k ⟨b,h⟩=>by cases h
 rb:=fun j k _ ⟨b,h⟩=>by cases h
 live:=⟨fun i hi=>.inr ((z3n t (erase t l) n i).2 (hl.1 i hi)),fun i hi=>by rw [hl.2] at hi; cases hi⟩
 liveB:=fun j b h=>by cases h
theorem Ext.new {t:Ty} {l:L t} (n:Nat) {w':World} {v:Value} (hk:Kept (fun _=>False) w w') (hh:holds (Rd w0 ok) w' t l) (hp:plain w' t l) (hn:(z6 t l).Nodup) (hg:∀ k∈z6 t l,w.heap.size≤k) (hv:z1f t v (z8 t l)) :
  Ext E w0 ok σ w M (zo t (erase t l) n).1 (zo t (erase t l) n).2.1 [] v w' { M with loc:=z15 t l n M.loc } :=
 Ext.newRows n hk hh hp hn hg (z1m (z7d t l n M.loc hh fun _ _ _=>rfl) (by unfold z2h; rw [zf5]; exact hv)) (z7e t _ n)

def zd5:Nat→(t:Ty)→L t→List Value→Prop
 | 0,_,_,vs=>vs=[]
 | 1,t,l,vs=>∃ v,vs=[v]∧z1f t v (z8 t l)
 | n+2,.pr a b,l,vs=>∃ v vs',vs=v::vs'∧z1f a v (z8 a l.1)∧zd5 (n+1) b l.2 vs'
 | _,_,_,_=>False
theorem zit:∀ (m:Nat) (t:Ty) (l:L t) (n:Nat) (f:Nat→Loc) (vs:List Value),holds (Rd w0 ok) w t l→0<m→(∀ i,n≤i→i<zd t n→M.loc i=z15 t l n f i)→zd5 m t l vs→z2d w0 ok M (z1x m (zo t (erase t l) n).1) vs
 | 0,_,_,_,_,_,_,h0,_,_=>absurd h0 (Nat.lt_irrefl 0)
 | 1,t,l,n,f,vs,hh,_,h,hp=>by
  obtain ⟨v,rfl,hw⟩:=hp
  refine ⟨v,[],rfl,⟨z8 t l,z7d t l n f hh h,?_⟩,rfl⟩
  rw [zf5]; exact hw
 | m+2,.pr a b,l,n,f,vs,hh,_,h,hp=>by
  have e1:=z3t a n
  have e2:=z3t b (zd a n)
  simp only [z15,zd] at h
  obtain ⟨v,vs',rfl,hw,hp⟩:=hp
  refine ⟨v,vs',rfl,⟨z8 a l.1,z7d a l.1 n f hh.1 fun i h1 h2=>?_,?_⟩,?_⟩
  ·rw [h i h1 (by omega),z6i b l.2 _ _ i (by omega)]
  ·rw [zf5]; exact hw
  ·simp only [z7c]
   exact zit (m+1) b l.2 (zd a n) (z15 a l.1 n f) vs' hh.2 (Nat.succ_pos _) (fun i h1 h2=>h i (by omega) h2) hp
theorem ziu:∀ (m:Nat) (s:SV),(∀ i∈(z1x m s).roots,i∈s.roots)∧(s.boxes=[]→(z1x m s).boxes=[])
 | 0,s=>⟨by simp [z1x,SV.roots],fun _=>rfl⟩
 | 1,s=>⟨by simp [z1x,SV.roots],fun h=>by simp [z1x,SV.boxes,h]⟩
 | m+2,.pr a b=>by
  obtain ⟨h1,h2⟩:=ziu (m+1) b
  refine ⟨fun i hi=>?_,fun h=>?_⟩
  ·simp only [z1x,SV.roots,List.mem_append] at hi ⊢
   rcases hi with hi | hi
   ·exact .inl hi
   ·exact .inr (h1 i hi)
  ·simp only [SV.boxes,List.append_eq_nil_iff] at h
   simp [z1x,SV.boxes,h.1,h2 h.2]
 | m+2,.val _ _=>⟨by simp [z1x,SV.roots],fun _=>rfl⟩
 | m+2,.ref _ _=>⟨by simp [z1x,SV.roots],fun _=>rfl⟩
 | m+2,.vw _ _ _=>⟨by simp [z1x,SV.roots],fun _=>rfl⟩
 | m+2,.ls _=>⟨by simp [z1x,SV.roots],fun _=>rfl⟩
 | m+2,.st _=>⟨by simp [z1x,SV.roots],fun _=>rfl⟩
 | m+2,.bp _ _ _=>⟨by simp [z1x,SV.roots],fun _=>rfl⟩
 | m+2,.ep _ _ _ _ _=>⟨by simp [z1x,SV.roots],fun _=>rfl⟩
 | m+2,.lp _ _=>⟨by simp [z1x,SV.roots],fun _=>rfl⟩
 | m+2,.clo _ _=>⟨by simp [z1x,SV.roots],fun _=>rfl⟩
 | m+2,.no=>⟨by simp [z1x,SV.roots],fun _=>rfl⟩
 | m+2,.er _=>⟨by simp [z1x,SV.roots],fun _=>rfl⟩
 | m+2,.tup _=>⟨by simp [z1x,SV.roots],fun _=>rfl⟩
 | m+2,.cns _ _=>⟨by simp [z1x,SV.roots],fun _=>rfl⟩
 | m+2,.nl=>⟨by simp [z1x,SV.roots],fun _=>rfl⟩
 | m+2,.un=>⟨by simp [z1x,SV.roots],fun _=>rfl⟩

def zd6 (m:Nat) (t:Ty) (l:L t) (v:Value):Prop:=if m=1 then z1f t v (z8 t l) else ∃ vs:Array Value,v=.tuple vs∧zd5 m t l vs.toList
theorem Ext.newT {m:Nat} {t:Ty} {l:L t} (n:Nat) {w':World} {v:Value} (hk:Kept (fun _=>False) w w') (hh:holds (Rd w0 ok) w' t l) (hp:plain w' t l) (hn:(z6 t l).Nodup) (hg:∀ k∈z6 t l,w.heap.size≤k) (hv:zd6 m t l v) :
  ∃ M',Ext E w0 ok σ w M (newT m t (erase t l) n).1 (newT m t (erase t l) n).2 [] v w' M':=by
 match m,hv with
 | 0,hv =>
  obtain ⟨vs,rfl,h⟩:=hv
  have hx:Ext E w0 ok σ w M (.tup .nl) [] [] (.tuple vs) w' M :=
   ⟨⟨vs,rfl,h⟩,hk,fun _ _=>rfl,fun _ _=>⟨rfl,rfl,rfl⟩,fun i r h=>(nomatch h),fun i j _ ⟨r,h⟩=>(nomatch h),fun i b h=>(nomatch h),fun i j ⟨r,h⟩=>(nomatch h),fun i j ⟨r,h⟩=>(nomatch h),
    ⟨by simp [SV.roots],by simp [SV.boxes]⟩,fun i b h=>(nomatch h)⟩
  exact ⟨M,hx⟩
 | 1,hv=>exact ⟨_,Ext.new n hk hh hp hn hg hv⟩
 | m+2,hv =>
  obtain ⟨vs,rfl,h⟩:=hv
  obtain ⟨h1,h2⟩:=z7e t (erase t l) n
  obtain ⟨h3,h4⟩:=ziu (m+2) (zo t (erase t l) n).1
  exact ⟨_,Ext.newRows (s:=.tup (z1x (m+2) (zo t (erase t l) n).1)) n hk hh hp hn hg ⟨vs,rfl,zit (m+2) t l n M.loc vs.toList hh (Nat.succ_pos _) (fun _ _ _=>rfl) h⟩ ⟨fun i hi=>h1 i (h3 i hi),h4 h2⟩⟩
end

section
variable {P : Program} {E : Env} {w0 : World} {ok O : Nat → Prop} {σ : St} {tm : Array Value} {w : World} {M : Map} {a : Act}

theorem Rd.one {w:World} {ok:Nat→Prop}:∀ {t:Ty} {x:t.T} {cs:List Value},Rd w ok t x cs→∀ c∈cs,c.oneCell'=true
 | .int _,_,_,h,c,hc=>by simp only [Rd] at h; subst h; simp at hc; subst hc; rfl
 | .bool,_,_,h,c,hc=>by simp only [Rd] at h; subst h; simp at hc; subst hc; rfl
 | .str,_,_,h,c,hc=>by simp only [Rd] at h; subst h; simp at hc; subst hc; rfl
 | .sl _ _,_,_,h,c,hc=>by obtain ⟨A,n,rfl,_⟩:=h; simp at hc; subst hc; rfl
 | .st t,x,cs,h,c,hc=>Rd.one (t:=t) (x:=x) h c hc
 | .pr a b,x,cs,h,c,hc=>by
  obtain ⟨c1,c2,rfl,h1,h2⟩:=h
  rcases List.mem_append.1 hc with hc | hc
  ·exact Rd.one h1 c hc
  ·exact Rd.one h2 c hc
 | .ptr _,_,_,h,c,hc=>by obtain ⟨ad,ds,rfl,_⟩:=h; simp at hc; subst hc; rfl
 | .un,_,_,h,c,hc=>by simp only [Rd] at h; subst h; cases hc
 | .fn _ _,_,_,h,c,hc=>by obtain ⟨caps,rfl,_⟩:=h; simp at hc; subst hc; rfl
 | .fs _,_,_,h,c,hc=>by obtain ⟨rfl,_⟩:=h; simp at hc; subst hc; rfl
 | .rd t,x,cs,h,c,hc=>Rd.one (t:=t) (x:=x) h c hc
theorem za.one:∀ {s:SV} {cs:List Value},za w0 ok M s cs→∀ c∈cs,c.oneCell'=true
 | .val t x,cs,h,c,hc=>Rd.one (t:=t) (x:=x) h c hc
 | .ref i p,cs,h,c,hc=>by obtain ⟨e,t,l,_,rfl⟩:=h; simp [z8] at hc; subst hc; rfl
 | .vw i lo n,cs,h,c,hc=>by obtain ⟨e,t,l,_,_,A,c,rfl,_⟩:=h; simp at hc; subst hc; rfl
 | .ls i,cs,h,c,hc=>by simp only [za] at h; subst h; simp at hc; subst hc; rfl
 | .st s,cs,h,c,hc=>za.one (s:=s) h c hc
 | .pr a b,cs,h,c,hc=>by
  obtain ⟨c1,c2,rfl,h1,h2⟩:=h
  rcases List.mem_append.1 hc with hc | hc
  ·exact za.one h1 c hc
  ·exact za.one h2 c hc
 | .bp i p o,cs,h,c,hc=>by simp only [za] at h; subst h; simp at hc; subst hc; rfl
 | .ep i p n f o,cs,h,c,hc=>by obtain ⟨e,t,l,g,_,_,_,rfl⟩:=h; simp at hc; subst hc; rfl
 | .lp i n,cs,h,c,hc=>by obtain ⟨_,rfl⟩:=h; simp at hc; subst hc; rfl
 | .clo g x,cs,h,c,hc=>by obtain ⟨caps,rfl,_⟩:=h; simp at hc; subst hc; rfl
 | .no,cs,h,c,hc=>by simp only [za] at h; subst h; cases hc
 | .er b,cs,h,c,hc=>by
  obtain ⟨v,rfl,h1,h2⟩:=h
  simp at hc
  subst hc
  cases b with
  | true=>obtain ⟨t,u,rfl⟩:=h1 rfl; rfl
  | false=>rw [h2 rfl]; rfl
 | .tup _,_,h,_,_=>h.elim
 | .cns _ _,_,h,_,_=>h.elim
 | .nl,_,h,_,_=>h.elim
 | .un,_,h,c,hc=>by obtain ⟨v,rfl,e⟩:=h; simp at hc; subst hc; exact e
theorem zmi {v:Value} (h:v.oneCell'=true):v.cells=#[v]:=by cases v <;> first | rfl | cases h
theorem ziv {s:SV} {v:Value} {cs:List Value} (h:za w0 ok M s cs) (hw:z2h s v cs):v.cells=cs.toArray:=by
 rcases hw with ⟨_,rfl⟩ | ⟨_,rfl⟩
 ·rfl
 ·exact zmi (za.one h v (by simp))
theorem zf6 {s:SV} {v:Value} {t:Ty} (h:zi w0 ok M s v) (hk:s.okW t=true):∃ cs,za w0 ok M s cs∧z2h s v cs∧v.cells=cs.toArray∧cs.length=t.sz:=by
 obtain ⟨k1,k2,k3,k4⟩:=zcz hk
 rcases z34 h with rfl | ⟨c,vs,rfl,_,_⟩ | ⟨cs,h4,h5⟩
 ·exact absurd rfl k4
 ·exact absurd k2.symm k3
 ·exact ⟨cs,h4,h5,ziv h4 h5,by rw [za.len h4,k2]⟩

theorem z98 (w:World) (o:Obj):(w.alloc o).heap[w.heap.size]?=some o:=by
 show (w.heap.push o)[w.heap.size]?=_
 simp
theorem z5b {α:Type} (i:Nat) (x:α) (l:List (Nat×α)):lk ((i,x)::l) i=some x:=by rw [zn,if_pos rfl]

theorem zmj {s:SV} {cs:List Value} (h:za w0 ok M s cs):s.count≤16777216:=by
 cases s <;> first | exact Nat.zero_le _ | exact h.elim
theorem Ext.var {d:Nat} {t:TypeId} {c:SV} {cs:List Value} {nr:List (Nat×Row)} {M1:Map} {s:SV} {v v0:Value} (hd:lk σ.bx d=none) (X:Ext E w0 ok σ w M .un nr [] v0 w M1)
  (hc:z1e w0 ok M1 c cs) (hl:(∀ i∈c.roots,(∃ r,lk σ.rows i=some r)∨∃ r,lk nr i=some r)∧(∀ i∈c.boxes,∃ r,lk σ.bx i=some r))
  (hs:zi w0 ok ⟨M1.loc,z2j M1.blk d w.heap.size,z2j M1.bn d c.count,z2j M1.bw d (E.tyOf t).sz⟩ s v) (hsr:s.roots=[]∧s.boxes=[d]) (hcnt:c.count≤16777216) :
  Ext E w0 ok σ w M s nr [(d,⟨t,c⟩)] v (w.alloc (.cells cs.toArray t)) ⟨M1.loc,z2j M1.blk d w.heap.size,z2j M1.bn d c.count,z2j M1.bw d (E.tyOf t).sz⟩ where
 val:=hs
 kept:=Kept.alloc _ _ _
 locO:=X.locO
 blkO:=fun i hi=>by
  have hn:=zm5 hi
  obtain ⟨e1,e2,e3⟩:=X.blkO i rfl
  exact ⟨(z35 _ _ hn).trans e1,(z35 _ _ hn).trans e2,(z35 _ _ hn).trans e3⟩
 rows:=fun i r hr=>by
  obtain ⟨l,h1,h2,h3,h4,h5,h6⟩:=X.rows i r hr
  have hlt:=z1d h3
  have hmv:∀ k∈z6 (.sl r.e r.t) l,(w.alloc (.cells cs.toArray t)).heap[k]?=w.heap[k]?:=fun k hk=>Below.heap_alloc w _ k (hlt k hk)
  exact ⟨l,h1,h2,z1t hmv h3,h4,fun hz=>z1u hmv (h5 hz),h6⟩
 rr:=X.rr
 boxes:=fun i b hb=>by
  obtain ⟨rfl,rfl⟩:=z3m hb
  refine ⟨cs,zey (M:=M1) ⟨fun _ _=>rfl,fun j hj=>?_⟩ hc,?_,fun _=>⟨z1n _ _ _,z1n _ _ _,hcnt⟩,?_⟩
  ·have hn:j≠i:=by
    rintro rfl
    obtain ⟨b,hb⟩:=hl.2 j hj
    rw [hd] at hb; cases hb
   exact ⟨z35 _ _ hn,z35 _ _ hn,z35 _ _ hn⟩
  ·show (w.alloc _).heap[z2j M1.blk i w.heap.size i]?=_
   rw [z1n]
   exact z98 _ _
  ·show w.heap.size≤z2j M1.blk i w.heap.size i
   rw [z1n]
   exact Nat.le_refl _
 bb:=fun i j ⟨b,hb⟩ ⟨b',hb'⟩=>(z3m hb).1.trans (z3m hb').1.symm
 rb:=fun i j ⟨r,hr⟩ ⟨b,hb⟩ hk=>by
  obtain ⟨rfl,_⟩:=z3m hb
  obtain ⟨l,h1,h2,h3,_⟩:=X.rows i r hr
  replace hk:z2j M1.blk j w.heap.size j∈z6 (M1.loc i).1 (M1.loc i).2:=hk
  rw [z1n,h1] at hk
  exact Nat.lt_irrefl _ (z1d h3 _ hk)
 live:=by
  rw [hsr.1,hsr.2]
  exact ⟨by simp,fun i hi=>.inr ⟨_,by simp at hi; subst hi; rw [zn,if_pos rfl]⟩⟩
 liveB:=fun i b hb=>by
  obtain ⟨rfl,rfl⟩:=z3m hb
  exact ⟨hl.1,fun j hj=>.inl (hl.2 j hj)⟩

theorem ziw (v:Value):Ext E w0 ok σ w M .un [] [] v w M:=Ext.pure trivial ⟨by simp [SV.roots],by simp [SV.boxes]⟩

theorem zmk (t:TypeId) (v:Value):(newVar t v).run P w=.ok ⟨w.heap.size,0,none⟩ (w.alloc (.cells v.cells t)):=by
 simp [newVar,newRow]

theorem zvh (R:Rep E w0 ok O σ tm w M) (hat:a.tmps=tm) (T:zb P E.ti=true) {o:Oper} {t:TypeId} {x:Operand} (hop:o.op=.box t x) {out:Out} (h:ze E σ o=some out) {d:Nat} (hf:σ.fresh d out.2.1 out.2.2=true):z10 P E w0 ok σ w M a o out:=by
 unfold ze z12 at h
 rw [hop] at h
 simp only [] at h
 split at h
 ·rename_i s hs
  cases hk:s.okW (E.tyOf t) <;> rw [hk] at h
  ·cases h
  ·cases h
   obtain ⟨h1,h2⟩:=zz R hat hs
   obtain ⟨cs,h3,h4,h5,h6⟩:=zf6 h1 hk
   have hd:=zau hf (i:=zp o) ⟨_,z5b _ _ _⟩
   refine ⟨.pointer (some ⟨w.heap.size,0,none⟩),w.alloc (.cells cs.toArray t),_,?_,Ext.var hd (ziw .nilFunc) (zu h3) ⟨fun i hi=>.inl (h2.rows i hi),h2.boxes⟩ ⟨_,?_,.inr ⟨rfl,rfl⟩⟩ ⟨rfl,rfl⟩ (zmj h3)⟩
   ·unfold execOp
    rw [hop]
    simp only [Instr.box,Sem.run_bind,zmk,Result.andThen_ok,Sem.run_pure,h5]
   ·show [_]=[Value.pointer (some ⟨z2j M.blk (zp o) w.heap.size (zp o),0,none⟩)]
    rw [z1n]
 ·cases h

theorem z7f:∀ (t:Ty) {z:t.T},t.zero=some z→∃ l:L t,erase t l=z∧z8 t l=z2e t∧z6 t l=[]∧∀ (F:Frz) w,holds F w t l∧plain w t l
 | .int _,z,h=>by cases h; exact ⟨(0:Int),rfl,rfl,rfl,fun F w=>⟨trivial,trivial⟩⟩
 | .bool,z,h=>by cases h; exact ⟨false,rfl,rfl,rfl,fun F w=>⟨trivial,trivial⟩⟩
 | .str,z,h=>by cases h; exact ⟨([]:List UInt8),rfl,rfl,rfl,fun F w=>⟨trivial,trivial⟩⟩
 | .sl _ _,z,h=>by cases h; exact ⟨(none,0,[]),rfl,rfl,rfl,fun F w=>⟨⟨⟨rfl,rfl⟩,by simp⟩,⟨fun b hb=>(nomatch hb),by simp⟩⟩⟩
 | .st t,z,h=>by
  obtain ⟨l,h1,h2,h3,h4⟩:=z7f t (z:=z) h
  exact ⟨l,h1,h2,h3,h4⟩
 | .pr a b,z,h=>by
  simp only [Ty.zero] at h
  split at h
  ·rename_i x y hx hy
   cases h
   obtain ⟨l1,e1,e2,e3,e4⟩:=z7f a hx
   obtain ⟨l2,g1,g2,g3,g4⟩:=z7f b hy
   exact ⟨(l1,l2),by simp [erase,e1,g1],by simp [z8,z2e,e2,g2],by simp [z6,e3,g3],fun F w=>⟨⟨(e4 F w).1,(g4 F w).1⟩,⟨(e4 F w).2,(g4 F w).2⟩⟩⟩
  ·cases h
 | .ptr _,z,h=>by cases h
 | .un,z,h=>by cases h
 | .fn _ _,z,h=>by cases h
 | .fs _,z,h=>by cases h
 | .rd _,z,h=>by cases h

theorem z68:∀ (t:Ty) {z:t.T},t.zero=some z→t.sz≠0
 | .int _,_,_=>by simp [Ty.sz]
 | .bool,_,_=>by simp [Ty.sz]
 | .str,_,_=>by simp [Ty.sz]
 | .sl _ _,_,_=>by simp [Ty.sz]
 | .st t,z,h=>z68 t (z:=z) h
 | .pr a b,z,h=>by
  simp only [Ty.zero] at h
  split at h
  ·rename_i x y hx hy
   have:=z68 a hx
   simp only [Ty.sz]; omega
  ·cases h
 | .ptr _,z,h=>by cases h
 | .un,z,h=>by cases h
 | .fn _ _,z,h=>by cases h
 | .fs _,z,h=>by cases h
 | .rd _,z,h=>by cases h
theorem z99 (T:zb P E.ti=true) {t:TypeId} {z:(E.tyOf t).T} (h:(E.tyOf t).zero=some z):∃ i v,P.info? t=some i∧i.zero=some v∧v.cells.toList=z2e (E.tyOf t)∧i.size=(E.tyOf t).sz:=by
 obtain ⟨ti,k1,k2,k3⟩:=z49 T (z68 _ h)
 obtain ⟨⟨i,i1,i2,i3,i4,i5,_⟩,_⟩:=(z2f T k1 k3).1
 rw [k2] at i2 i5
 obtain ⟨v,v1,v2⟩:=i5 z h
 exact ⟨i,v,i1,v1,v2,i2⟩
theorem zml:∀ (t:Ty),t.fillable=true→t.sz≠0:=by
 intro t h
 cases t with
 | fs ids=>simp [Ty.sz]
 | _ =>
  simp only [Ty.fillable] at h
  obtain ⟨z,hz⟩:=Option.isSome_iff_exists.1 h
  exact z68 _ hz
theorem zvi (T:zb P E.ti=true) {t:TypeId} (h:(E.tyOf t).fillable=true):∃ i v,P.info? t=some i∧i.zero=some v∧i.size=(E.tyOf t).sz:=by
 obtain ⟨ti,k1,k2,k3⟩:=z49 T (zml _ h)
 obtain ⟨⟨i,i1,i2,i3,i4,i5,i6⟩,_⟩:=(z2f T k1 k3).1
 rw [k2] at i2 i6
 obtain ⟨v,v1⟩:=i6 h
 exact ⟨i,v,i1,v1,i2⟩
theorem zvj {t:Ty} {s:SV} {v:Value} (h:zi w0 ok M s v) (hl:Live σ s):zi w0 ok M (s.asFs t) v∧Live σ (s.asFs t):=by
 unfold SV.asFs
 split
 ·rename_i ids g
  cases hb:ids.any (Nat.beq g)
  ·exact ⟨h,hl⟩
  ·obtain ⟨cs,⟨caps,h1,h2⟩,h3⟩:=h
   have hc:caps=#[]:=by apply Array.ext'; simpa [za] using h2
   subst hc
   refine ⟨⟨cs,⟨h1,hb⟩,?_⟩,z2s _ _⟩
   rcases h3 with ⟨h4,_⟩ | ⟨_,h4⟩
   ·cases h4
   ·exact .inr ⟨rfl,h4⟩
 ·exact ⟨h,hl⟩

theorem Ext.un' {t:Ty} {l:L t} (n:Nat) (v:Value) (hh:holds (Rd w0 ok) w t l) (hp:plain w t l) (hb:z6 t l=[]):Ext E w0 ok σ w M .un (zo t (erase t l) n).2.1 [] v w { M with loc:=z15 t l n M.loc } :=
 Ext.newRows n (Kept.refl _ _) hh hp (by rw [hb]; exact List.nodup_nil) (by rw [hb]; simp) trivial ⟨by simp [SV.roots],rfl⟩

theorem zvk (R:Rep E w0 ok O σ tm w M) (hat:a.tmps=tm) (T:zb P E.ti=true) {o:Oper} {t:TypeId} (hop:o.op=.alloc t) {out:Out} (h:ze E σ o=some out) {d:Nat} (hf:σ.fresh d out.2.1 out.2.2=true):z10 P E w0 ok σ w M a o out:=by
 unfold ze z12 at h
 rw [hop] at h
 simp only [] at h
 split at h
 ·rename_i z hz
  cases h
  obtain ⟨i,v,i1,i2,i3,i4⟩:=z99 T hz
  obtain ⟨l,rfl,l2,l3,l4⟩:=z7f _ hz
  have hd:=zau hf (i:=zp o) ⟨_,z5b _ _ _⟩
  have X:Ext E w0 ok σ w M .un _ [] .nilFunc w _:=Ext.un' (E:=E) (w0:=w0) (ok:=ok) (σ:=σ) (M:=M) (32*(zp o)) .nilFunc (l4 _ w).1 (l4 (fun _ _ _=>False) w).2 l3
  have hrep:za w0 ok { M with loc:=z15 (E.tyOf t) l (32*(zp o)) M.loc } _ (z8 _ l):=z7d (E.tyOf t) l (32*(zp o)) M.loc (l4 _ w).1 fun _ _ _=>rfl
  obtain ⟨h1,h2⟩:=z7e (E.tyOf t) (erase _ l) (32*(zp o))
  refine ⟨.pointer (some ⟨w.heap.size,0,none⟩),w.alloc (.cells (z8 _ l).toArray t),_,?_,Ext.var hd X (zu hrep) ⟨fun i hi=>.inr ((z3n _ _ _ _).2 (h1 i hi)),by rw [h2]; simp⟩ ⟨_,?_,.inr ⟨rfl,rfl⟩⟩ ⟨rfl,rfl⟩ (zmj hrep)⟩
  ·unfold execOp
   rw [hop]
   have:v.cells=(z8 (E.tyOf t) l).toArray:=by apply Array.ext'; rw [i3,l2]
   have hzero:(zeroValue t).run P w=.ok v w:=by simp [zeroValue,typeInfo,i1,i2]
   simp only [Instr.alloc,hzero,Sem.run_bind,Result.andThen_ok,Sem.run_pure,zmk,this]
  ·show [_]=[Value.pointer (some ⟨z2j M.blk (zp o) w.heap.size (zp o),0,none⟩)]
   rw [z1n]
 ·cases h

theorem zvl (R:Rep E w0 ok O σ tm w M) (hat:a.tmps=tm) (T:zb P E.ti=true) {o:Oper} {args:Array Operand} {ts:Array TypeId} (hop:o.op=.call ⟨.builtin .len,args,ts⟩) {out:Out} (h:ze E σ o=some out):z10 P E w0 ok σ w M a o out:=by
 unfold ze z12 at h
 rw [hop] at h
 simp only [] at h
 split at h
 ·rename_i x xt hargs hts
  have ha:args=#[x]:=by apply Array.ext'; rw [hargs]
  have ht:ts=#[xt]:=by apply Array.ext'; rw [hts]
  have hex:∀ {v:Value},(Builtin.len_ #[xt] o.type #[a.eval x]).run P w=.ok v w→(execOp a.eval o).run P w=.ok (.value v) w:=by
   intro v hv
   unfold execOp
   rw [hop,ha,ht]
   simp only [resolve,Sem.run_bind,Sem.run_pure,Result.andThen_ok,invoke,builtin]
   have:(#[x].map a.eval)=#[a.eval x]:=by simp
   rw [this,hv]
   rfl
  split at h
  ·rename_i s hs
   rw [zy] at h
   obtain ⟨⟨t,y⟩,hv,h⟩:=Option.bind_eq_some_iff.1 h
   obtain ⟨cs,h2,h3⟩:=z65 R hat hs hv
   simp only [] at h
   split at h
   ·rename_i y
    cases hz:E.isStr xt <;> rw [hz] at h
    ·cases h
    ·cases h
     have hstr:P.underlying xt=some .string:=by
      unfold Env.isStr at hz
      split at hz
      ·rename_i ht; exact (z96 T ht).1
      ·cases hz
     have he:=z87 h2 h3
     refine z10.val (t:=.int .i64) (v:=goInt y.length) rfl rfl (hex ?_)
     rw [he]
     simp [Builtin.len_,run_underlying hstr,Result.andThen]
     rfl
   ·rename_i e u y
    cases hz:E.isSl xt <;> rw [hz] at h
    ·cases h
    ·cases h
     have hsl:∃ e,P.underlying xt=some (.slice e):=by
      unfold Env.isSl at hz
      split at hz
      ·rename_i ht; exact ⟨_,(z6h T ht).1⟩
      ·cases hz
     obtain ⟨e',hsl⟩:=hsl
     obtain ⟨A,c,hA,_⟩:=h2
     have:=zaw h3 rfl
     rw [hA] at this
     simp only [List.cons.injEq,and_true] at this
     refine z10.val (t:=.int .i64) (v:=goInt (List.length y)) rfl rfl (hex ?_)
     rw [← this]
     simp [Builtin.len_,run_underlying hsl,Result.andThen]
   ·cases h
  ·cases h
 ·cases h

theorem zvm (n c:Int) (b:Nat) (h:0≤n∧n≤c∧c*(b:Int)≤(LIM:Int)) (hb:0<b):0≤n∧n≤c∧(b:Int)*c≤281474976710656∧c≤9223372036854775807∧n.toNat≤c.toNat∧c.toNat≤maxLen:=by
 obtain ⟨h1,h2,h3⟩:=h
 have hl:(LIM:Int)=140737488355328:=rfl
 rw [hl] at h3
 have hpos:(1:Int)≤b:=by omega
 have h4:c*1≤c*(b:Int):=Int.mul_le_mul_of_nonneg_left hpos (by omega)
 rw [Int.mul_comm (b:Int) c]
 refine ⟨h1,h2,by omega,by omega,by omega,?_⟩
 simp only [maxLen]; omega

theorem zvn (R:Rep E w0 ok O σ tm w M) (hat:a.tmps=tm) (T:zb P E.ti=true) {o:Oper} {t:TypeId} {x y:Operand} (hop:o.op=.makeSlice t x y) {out:Out} (h:ze E σ o=some out):z10 P E w0 ok σ w M a o out:=by
 unfold ze z12 at h
 rw [hop] at h
 simp only [] at h
 split at h
 ·rename_i e e' u b n c ht hx hy
  split at h
  ·rename_i i z hi hz
   obtain ⟨hu,hty⟩:=zcv T ht (fun v h=>by subst h; cases hz)
   split at h
   ·rename_i hb
    cases h
    have hue:u=E.tyOf e:=by injection hty
    subst hue
    obtain ⟨ti,v,i1,i2,i3,i4⟩:=z99 T hz
    obtain ⟨l,rfl,l2,l3,l4⟩:=z7f _ hz
    obtain ⟨⟨ti',j1,j2,j3,j4,j5⟩,_⟩:=(z2f T hi (by
     intro hsh
     have:=z95 T hi
     unfold z7a at this
     rw [hsh] at this
     simp only [Bool.and_eq_true,beq_iff_eq] at this; replace this:=this.1
     have h9:E.tyOf e=.un:=by rw [Env.tyOf,hi]; exact this
     have:=z68 _ hz
     rw [h9] at this
     exact this rfl)).1
    rw [i1] at j1
    cases j1
    obtain ⟨hb1,hb2,hbytes,h63,hnc,hcm⟩:=zvm n c i.bytes hb (by omega)
    rw [← j3] at hbytes
    have hrun:=run_make (P:=P) w t e ti v hu i1 i2 .i64 .i64 n c hb1 hb2 hbytes h63
    have hcells:madeCells v.cells (c.toNat*ti.size)=((List.replicate c.toNat l).flatMap (z8 (E.tyOf e))).toArray:=by
     have hv:v.cells=(z8 (E.tyOf e) l).toArray:=by apply Array.ext'; rw [i3,l2]
     have hvs:v.cells.size=(E.tyOf e).sz:=by rw [hv]; simp [z1s]
     have hsz:=z68 _ hz
     apply Array.ext
     ·rw [size_madeCells,i4,List.size_toArray,z1l,List.length_replicate]
     ·intro k hk1 hk2
      rw [size_madeCells] at hk1
      simp only [madeCells,Array.getElem_map,Array.getElem_range,hvs]
      have hm:k % (E.tyOf e).sz<(E.tyOf e).sz:=Nat.mod_lt _ (by omega)
      rw [getElem!_pos _ _ (by rw [hvs]; exact hm)]
      have hq:k / (E.tyOf e).sz<c.toNat:=by
       rw [Nat.div_lt_iff_lt_mul (by omega),← i4]; exact hk1
      have hf:=zec (E.tyOf e) (List.replicate c.toNat l) (k / (E.tyOf e).sz) l (by simp [hq]) (k % (E.tyOf e).sz) hm
      rw [Nat.mul_comm,Nat.div_add_mod] at hf
      have h7:((List.replicate c.toNat l).flatMap (z8 (E.tyOf e)))[k]?=some v.cells[k % (E.tyOf e).sz]:=by
       rw [hf]
       rw [List.getElem?_eq_getElem (by rw [z1s]; exact hm)]
       simp only [hv,List.getElem_toArray]
      rw [List.getElem?_eq_some_iff] at h7
      obtain ⟨_,h7⟩:=h7
      rw [List.getElem_toArray]
      exact h7.symm
    have hloc:∃ l':L (.sl e (E.tyOf e)),l'=(some w.heap.size,c.toNat,List.replicate n.toNat l):=⟨_,rfl⟩
    obtain ⟨l',hl'⟩:=hloc
    have X:=Ext.row (E:=E) (w0:=w0) (ok:=ok) (σ:=σ) (w:=w) (M:=M) (i:=32*(zp o)) (e:=e) (t:=E.tyOf e) (xs:=List.replicate n.toNat (erase _ l)) (z:=false) (l:=(some w.heap.size,c.toNat,List.replicate n.toNat l))
     (w':=w.alloc (.cells (madeCells v.cells (c.toNat*ti.size)) e)) (fun _=>⟨fun b hb=>?_,fun y hy=>?_⟩) (Kept.alloc _ _ _) (by simp [erase]) ⟨?_,fun y hy=>?_⟩ ?_ ?_
    ·have he:e'=e:=by injection hty
     subst he
     refine ⟨_,_,_,?_,X⟩
     unfold execOp
     rw [hop]
     simp only [z85 R hat hx,z85 R hat hy,hrun,Sem.run_bind,Result.andThen_ok,Sem.run_pure,List.length_replicate]
     rfl
    ·cases hb
     exact ⟨_,e,z98 _ _,by rw [size_madeCells,i4]⟩
    ·rw [List.eq_of_mem_replicate hy]; exact (l4 (fun _ _ _=>False) _).2
    ·refine ⟨_,(0,0),z98 _ _,?_,?_,?_,?_,.inl rfl⟩
     ·simp only [List.length_replicate]; exact hnc
     ·exact hcm
     ·rw [size_madeCells,i4]; exact Nat.le_refl _
     ·rw [hcells]
      simp only [List.length_replicate]
      have:List.replicate c.toNat l=List.replicate n.toNat l++List.replicate (c.toNat-n.toNat) l:=by
       rw [List.replicate_append_replicate]; congr 1; omega
      rw [this,List.flatMap_append,List.take_left' (by rw [z1l,List.length_replicate])]
    ·rw [List.eq_of_mem_replicate hy]; exact (l4 _ _).1
    ·simp only [z6,Option.toList_some]
     have:(List.replicate n.toNat l).flatMap (z6 (E.tyOf e))=[]:=by
      rw [List.flatMap_eq_nil_iff]
      intro y hy
      rw [List.eq_of_mem_replicate hy]; exact l3
     rw [this]; simp
    ·intro k hk
     simp only [z6,Option.toList_some,List.mem_append,List.mem_singleton,List.mem_flatMap] at hk
     rcases hk with rfl | ⟨y,hy,hk⟩
     ·exact Nat.le_refl _
     ·rw [List.eq_of_mem_replicate hy,l3] at hk; cases hk
   ·cases h
  ·cases h
 ·cases h
end

def zd7:List (List Value)→List (Nat×Value)→List (List Value)
 | segs,[]=>segs
 | segs,(i,v)::r=>zd7 (segs.set i v.cells.toList) r

theorem zvo {α:Type} (segs:List (List α)) (i:Nat) (s:List α) (h:segs[i]?=some s) (t:List α) :
  segs.flatten=(segs.take i).flatten++s++(segs.drop (i+1)).flatten∧(segs.set i t).flatten=(segs.take i).flatten++t++(segs.drop (i+1)).flatten:=by
 induction segs generalizing i with
 | nil=>simp at h
 | cons a l ih =>
  cases i with
  | zero=>simp at h; subst h; simp
  | succ i =>
   simp only [List.getElem?_cons_succ] at h
   obtain ⟨h1,h2⟩:=ih i h
   constructor
   ·simp only [List.flatten_cons,h1,List.take_succ_cons,List.drop_succ_cons,List.append_assoc]
   ·simp only [List.set_cons_succ,List.flatten_cons,h2,List.take_succ_cons,List.drop_succ_cons,List.append_assoc]

theorem zvp (A s C:List Value) (v:Array Value) (h:v.size=s.length):(v.zipIdx.foldl (fun cs (x:Value×Nat)=>cs.setIfInBounds (A.length+x.2) x.1) (A++s++C).toArray)=(A++v.toList++C).toArray:=by
 rw [← Array.foldl_toList,Array.toList_zipIdx]
 obtain ⟨g1,g2⟩:=Go.Great.foldl_set A.length v.toList 0 (A++s++C).toArray
 have hv:v.toList.length=s.length:=by rw [Array.length_toList,h]
 apply Array.ext_getElem?
 intro k
 rw [g2 k]
 simp only [Nat.add_zero,hv,List.getElem?_toArray,List.size_toArray,List.length_append]
 by_cases hA:A.length≤k∧k<A.length+s.length∧k<A.length+s.length+C.length
 ·rw [if_pos hA,List.append_assoc,List.getElem?_append_right hA.1,List.getElem?_append_left (by rw [hv]; omega)]
 ·rw [if_neg hA]
  by_cases hB:k<A.length
  ·rw [List.append_assoc,List.append_assoc,List.getElem?_append_left hB,List.getElem?_append_left hB]
  ·have hC:A.length+s.length≤k:=by omega
   rw [List.getElem?_append_right (by rw [List.length_append]; exact hC),List.getElem?_append_right (by rw [List.length_append,hv]; exact hC),List.length_append,List.length_append,hv]

def zmm (place:Nat→Option (Nat×Nat)) (segs:List (List Value)) (parts:List (Nat×Value)):Prop :=
 ∀ i v,(i,v)∈parts→∃ s,segs[i]?=some s∧place i=some ((segs.take i).flatten.length,s.length)∧v.cells.size=s.length
theorem zmn (place:Nat→Option (Nat×Nat)):∀ (parts:List (Nat×Value)) (segs:List (List Value)),zmm place segs parts→Instr.fill place segs.flatten.toArray parts=some (zd7 segs parts).flatten.toArray
 | [],segs,_=>rfl
 | (i,v)::r,segs,h=>by
  obtain ⟨s,h1,h2,h3⟩:=h i v (by simp)
  obtain ⟨e1,e2⟩:=zvo segs i s h1 v.cells.toList
  have ht:(segs.set i v.cells.toList).take i=segs.take i:=by rw [List.take_set_of_le (Nat.le_refl _)]
  unfold Instr.fill
  rw [h2]
  simp only []
  have hsz:segs.flatten.toArray.size=(segs.take i).flatten.length+s.length+(segs.drop (i+1)).flatten.length:=by
   rw [List.size_toArray,e1]; simp [Nat.add_assoc]
  have hle:(segs.take i).flatten.length+s.length≤segs.flatten.toArray.size:=by rw [hsz]; omega
  rw [if_neg (by
   rw [h3]
   intro hh
   simp only [Bool.or_eq_true,decide_eq_true_eq] at hh
   exact hh.elim (fun h=>h rfl) (fun h=>absurd hle (Nat.not_le.2 h)))]
  have hc:(v.cells.zipIdx.foldl (fun cs (x:Value×Nat)=>cs.setIfInBounds ((segs.take i).flatten.length+x.2) x.1) segs.flatten.toArray)=(segs.set i v.cells.toList).flatten.toArray:=by
   rw [e1,e2]
   exact zvp _ s _ v.cells h3
  refine Eq.trans (congrArg (fun z=>Instr.fill place z r) hc) (zmn place r (segs.set i v.cells.toList) ?_)
  intro j u hj
  obtain ⟨s',k1,k2,k3⟩:=h j u (by simp [hj])
  by_cases hij:i=j
  ·subst hij
   rw [h1] at k1
   cases k1
   refine ⟨v.cells.toList,?_,?_,?_⟩
   ·rw [List.getElem?_set_self]
    exact (List.getElem?_eq_some_iff.1 h1).1
   ·rw [ht,k2]; simp [h3]
   ·simp [k3,h3]
  ·refine ⟨s',by rw [List.getElem?_set_ne hij]; exact k1,?_,k3⟩
   rw [k2]
   congr 2
   have key:∀ (segs:List (List Value)) (i j:Nat) (t:List Value),segs[i]?=some s→t.length=s.length→(segs.take j).flatten.length=((segs.set i t).take j).flatten.length:=by
    intro segs i j t h1 hl
    induction segs generalizing i j with
    | nil=>simp
    | cons a l ih =>
     cases j with
     | zero=>simp
     | succ j =>
      cases i with
      | zero=>simp at h1; subst h1; simp [hl]
      | succ i=>simp only [List.getElem?_cons_succ] at h1; simp only [List.set_cons_succ,List.take_succ_cons,List.flatten_cons,List.length_append,ih i j h1]
   exact key segs i j _ h1 (by rw [Array.length_toList,h3])

theorem zmo:∀ (parts:List (Nat×Value)) (segs:List (List Value)) (j:Nat),(parts.map (·.1)).Nodup→(zd7 segs parts)[j]?=match lk parts j with | some v=>(segs[j]?).map fun _=>v.cells.toList | none=>segs[j]?
 | [],segs,j,_=>rfl
 | (i,v)::r,segs,j,hn=>by
  simp only [List.map_cons,List.nodup_cons] at hn
  simp only [zd7]
  rw [zmo r _ j hn.2,zn]
  by_cases hij:i=j
  ·subst hij
   have hnone:lk r i=none:=zlx fun v hv=>hn.1 (List.mem_map.2 ⟨(i,v),hv,rfl⟩)
   rw [hnone,if_pos rfl]
   simp only []
   rw [List.getElem?_set]
   simp only [if_true]
   split
   ·rename_i h; rw [List.getElem?_eq_getElem h]; rfl
   ·rename_i h; rw [List.getElem?_eq_none (by omega)]; rfl
  ·rw [if_neg hij,List.getElem?_set_ne hij]

theorem zmp:∀ {l:List Nat} {n:Nat},zab l n=true→l.Nodup∧(∀ i∈l,i<n)∧∀ a,l.head?=some a→∀ i∈l,a≤i
 | [],n,_=>⟨List.nodup_nil,by simp,by simp⟩
 | [i],n,h=>⟨by simp,by simp; exact Nat.le_of_ble_eq_true h,by simp⟩
 | i::j::l,n,h=>by
  simp only [zab,Bool.and_eq_true] at h
  obtain ⟨h1,h2,h3⟩:=zmp h.2
  have hij:i<j:=Nat.le_of_ble_eq_true h.1
  have hj:=h3 j rfl
  refine ⟨List.nodup_cons.2 ⟨fun hm=>?_,h1⟩,fun k hk=>?_,fun a ha k hk=>?_⟩
  ·have:=hj i hm; omega
  ·rcases List.mem_cons.1 hk with rfl | hk
   ·have:=h2 j (by simp); omega
   ·exact h2 k hk
  ·simp at ha
   subst ha
   rcases List.mem_cons.1 hk with rfl | hk
   ·exact Nat.le_refl _
   ·have:=hj k hk; omega

section
variable {P : Program} {E : Env} {w0 : World} {ok O : Nat → Prop} {σ : St} {tm : Array Value} {w : World} {M M' : Map} {a : Act}

def zmq (M':Map) (r:List (Nat×Row)):Prop:=∀ i row,lk r i=some row→row.xs=[]∧row.z=false∧M'.loc i=⟨.sl row.e row.t,(none,0,[])⟩
def z4a (r:List (Nat×Row)) (f:Nat→Loc):Nat→Loc:=fun i=>match lk r i with | some row=>⟨.sl row.e row.t,(none,0,[])⟩ | none=>f i
theorem Ext.nilRows {r:List (Nat×Row)} {s:SV} {v:Value} (h:∀ i row,lk r i=some row→row.xs=[]∧row.z=false) (hs:zi w0 ok { M with loc:=z4a r M.loc } s v)
  (hl:(∀ i∈s.roots,(∃ r,lk σ.rows i=some r)∨∃ r',lk r i=some r')∧(∀ i∈s.boxes,∃ b,lk σ.bx i=some b)):Ext E w0 ok σ w M s r [] v w { M with loc:=z4a r M.loc } where
 val:=hs
 kept:=Kept.refl _ _
 locO:=fun i hi=>by show z4a r M.loc i=_; unfold z4a; rw [hi]
 blkO:=fun _ _=>⟨rfl,rfl,rfl⟩
 rows:=fun i row hr=>by
  obtain ⟨h1,h2⟩:=h i row hr
  exact ⟨(none,0,[]),by show z4a r M.loc i=_; unfold z4a; rw [hr],by rw [h1]; rfl,⟨⟨rfl,rfl⟩,by simp⟩,by simp [z6],fun _=>⟨fun b hb=>(nomatch hb),by simp⟩,by simp [z6]⟩
 rr:=fun i j _ ⟨row,hr⟩ _ k hk=>by
  exfalso
  have:z4a r M.loc i=⟨.sl row.e row.t,(none,0,[])⟩:=by unfold z4a; rw [hr]
  replace hk:k∈z6 (z4a r M.loc i).1 (z4a r M.loc i).2:=hk
  rw [this] at hk
  simp [z6] at hk
 boxes:=fun j b h=>by cases h
 bb:=fun j k ⟨b,h⟩=>by cases h
 rb:=fun j k _ ⟨b,h⟩=>by cases h
 live:=⟨hl.1,fun i hi=>.inl (hl.2 i hi)⟩
 liveB:=fun j b h=>by cases h

theorem zvq (w0:World) {t:Ty} {z:t.T} (hz:t.zero=some z) (n:Nat):∀ i row,lk (zo t z n).2.1 i=some row→row.xs=[]∧row.z=false:=by
 intro i row hr
 obtain ⟨l,rfl,l2,l3,l4⟩:=z7f t hz
 obtain ⟨h1,l',h2,h3⟩:=z6j t l n (fun _=>⟨.un,()⟩) i row hr
 have hb:z6 (.sl row.e row.t) l'=[]:=by have:=h3.bl; rw [l3] at this; exact List.eq_nil_of_sublist_nil this
 have hn:l'.1=none:=by
  cases hx:l'.1 with
  | none=>rfl
  | some b=>simp [z6,hx] at hb
 have:=(h3.ho (fun _ _ _=>False) w0 (l4 _ w0).1).1
 rw [hn] at this
 exact ⟨by rw [← h3.er]; simp [erase,this.1],h1⟩

theorem zvr {t:Ty} {z:t.T} (hz:t.zero=some z) (n:Nat) (hM:zmq M' (zo t z n).2.1):za w0 ok M' (zo t z n).1 (z2e t):=by
 obtain ⟨l,rfl,l2,l3,l4⟩:=z7f t hz
 rw [← l2]
 refine z7d t l n M'.loc (l4 _ w0).1 fun i h1 h2=>?_
 obtain ⟨row,hr⟩:=(z3n t (erase t l) n i).2 ⟨h1,h2⟩
 obtain ⟨_,l',h3,h4⟩:=z6j t l n M'.loc i row hr
 rw [h3,(hM i row hr).2.2]
 have hb:z6 (.sl row.e row.t) l'=[]:=by have:=h4.bl; rw [l3] at this; exact List.eq_nil_of_sublist_nil this
 have hn:l'.1=none:=by
  cases hx:l'.1 with
  | none=>rfl
  | some b=>simp [z6,hx] at hb
 have:=(h4.ho (fun _ _ _=>False) w0 (l4 _ w0).1).1
 rw [hn] at this
 obtain ⟨A,c,xs⟩:=l'
 simp only at hn this
 rw [hn,this.1,this.2]

theorem zmr {α β:Type} (f:α→β):∀ (l:List (Nat×α)) (i:Nat),lk (l.map fun x=>(x.1,f x.2)) i=(lk l i).map f
 | [],i=>rfl
 | (k,v)::l,i=>by
  rw [List.map_cons,zn,zn,zmr f l i]
  split <;> rfl

theorem zd8:∀ (t:Ty) {z:t.T},t.zero=some z→(z2e t).length=t.sz:=by
 intro t z h
 obtain ⟨l,_,l2,_⟩:=z7f t h
 rw [← l2,z1s]

theorem zms (R:Rep E w0 ok O σ tm w M) (hat:a.tmps=tm) {parts:List (Nat×Operand)} {f:TypeId} {i n m:Nat} {s:SV} {r:List (Nat×Row)} (h:z7v E σ parts f i n=some (s,r,m)) (hk:s.okW (E.tyOf f)=true)
  (hsame:∀ u,Live σ u→Same M M' u) (hM:(∀ j row,lk r j=some row→row.xs=[]∧row.z=false)∧(∀ j row,lk r j=some row→M'.loc j=⟨.sl row.e row.t,(none,0,[])⟩)) :
  ∃ sg,za w0 ok M' s sg∧sg.length=(E.tyOf f).sz∧(match lk parts i with | some x=>(a.eval x).cells.toList=sg | none=>sg=z2e (E.tyOf f)) ∧
   (∀ i∈s.roots,(∃ r,lk σ.rows i=some r)∨∃ r',lk r i=some r')∧(∀ i∈s.boxes,∃ b,lk σ.bx i=some b):=by
 unfold z7v at h
 split at h
 ·rename_i hp
  split at h
  ·rename_i e t ht
   cases h
   refine ⟨[.slice none 0 0],⟨e,t,(none,0,[]),?_,rfl⟩,by rw [ht]; rfl,?_,fun i hi=>?_,by simp [SV.boxes]⟩
   ·rw [hM.2 n _ (z5b _ _ _)]; rfl
   ·rw [hp]; rfl
   ·simp [SV.roots] at hi; subst hi; exact .inr ⟨_,z5b _ _ _⟩
  ·cases h
 ·rename_i x hx hp
  split at h
  ·rename_i s' hs
   cases h
   obtain ⟨h1,h2⟩:=zz R hat hs
   obtain ⟨cs,h3,h4,h5,h6⟩:=zf6 h1 hk
   refine ⟨cs,z3k (hsame _ h2) h3,h6,?_,fun i hi=>.inl (h2.rows i hi),h2.boxes⟩
   rw [hp]; simp [h5]
  ·cases h
 ·rename_i hp
  split at h
  ·rename_i z hz
   obtain ⟨rfl,rfl,rfl⟩:(zo (E.tyOf f) z n).1=s∧(zo (E.tyOf f) z n).2.1=r∧(zo (E.tyOf f) z n).2.2=m:=by rw [Option.some.inj h]; exact ⟨rfl,rfl,rfl⟩
   have hr:zmq M' (zo (E.tyOf f) z n).2.1:=fun j row hr=>⟨(hM.1 j row hr).1,(hM.1 j row hr).2,hM.2 j row hr⟩
   obtain ⟨l1,l2⟩:=z7e (E.tyOf f) z n
   refine ⟨_,zvr hz n hr,zd8 _ hz,by rw [hp],fun i hi=>.inr ((z3n _ _ _ _).2 (l1 i hi)),by rw [l2]; simp⟩
  ·cases h

theorem zmt {parts:List (Nat×Operand)} {f:TypeId} {i n m:Nat} {s:SV} {r:List (Nat×Row)} (h:z7v E σ parts f i n=some (s,r,m)) :
  n≤m∧(∀ j row,lk r j=some row→(row.xs=[]∧row.z=false)∧n≤j∧j<m):=by
 unfold z7v at h
 split at h
 ·split at h
  ·cases h
   refine ⟨Nat.le_succ _,fun j row hr=>?_⟩
   obtain ⟨rfl,rfl⟩:=z3m hr
   exact ⟨⟨rfl,rfl⟩,Nat.le_refl _,Nat.lt_succ_self _⟩
  ·cases h
 ·split at h
  ·cases h
   exact ⟨Nat.le_refl _,fun j row hr=>by cases hr⟩
  ·cases h
 ·split at h
  ·rename_i z hz
   have hm:=z7c (E.tyOf f) z n
   obtain ⟨rfl,rfl,rfl⟩:(zo (E.tyOf f) z n).1=s∧(zo (E.tyOf f) z n).2.1=r∧(zo (E.tyOf f) z n).2.2=m:=by rw [Option.some.inj h]; exact ⟨rfl,rfl,rfl⟩
   rw [hm]
   refine ⟨z3t _ _,fun j row hr=>?_⟩
   exact ⟨zvq default hz n j row hr,(z3n _ _ _ _).1 ⟨row,hr⟩⟩
  ·cases h

theorem zix {parts:List (Nat×Operand)}:∀ {fs:List (TypeId×Nat)} {i n:Nat} {s:SV} {r:List (Nat×Row)},z6x E σ parts fs i n=some (s,r) →
  ∀ j row,lk r j=some row→(row.xs=[]∧row.z=false)∧n≤j
 | [],i,n,s,r,h=>by cases h
 | (f,o)::fs,i,n,s,r,h=>by
  simp only [z6x] at h
  split at h
  ·rename_i s1 r1 m hone
   obtain ⟨h1,h2⟩:=zmt hone
   cases hb:s1.okW (E.tyOf f) <;> rw [hb] at h
   ·cases h
   ·simp only [cond_true] at h
    split at h
    ·cases h
     exact fun j row hr=>⟨(h2 j row hr).1,(h2 j row hr).2.1⟩
    ·split at h
     ·rename_i s' r' hrest
      cases h
      intro j row hr
      rw [z2b] at hr
      cases hq:lk r1 j with
      | some row'=>rw [hq] at hr; cases hr; exact ⟨(h2 j row hq).1,(h2 j row hq).2.1⟩
      | none =>
       rw [hq] at hr
       obtain ⟨h3,h4⟩:=zix hrest j row hr
       exact ⟨h3,Nat.le_trans h1 h4⟩
     ·cases h
  ·cases h

theorem zmu (R:Rep E w0 ok O σ tm w M) (hat:a.tmps=tm) {parts:List (Nat×Operand)} (hsame:∀ u,Live σ u→Same M M' u):∀ {fs:List (TypeId×Nat)} {i n:Nat} {s:SV} {r:List (Nat×Row)},z6x E σ parts fs i n=some (s,r) →
  (∀ j row,lk r j=some row→M'.loc j=⟨.sl row.e row.t,(none,0,[])⟩) →
  ∃ segs:List (List Value),segs.length=fs.length∧za w0 ok M' s segs.flatten ∧
   (∀ k f,fs[k]?=some f→∃ sg,segs[k]?=some sg∧sg.length=(E.tyOf f.1).sz∧(match lk parts (i+k) with | some x=>(a.eval x).cells.toList=sg | none=>sg=z2e (E.tyOf f.1))) ∧
   (∀ i∈s.roots,(∃ r,lk σ.rows i=some r)∨∃ r',lk r i=some r')∧(∀ i∈s.boxes,∃ b,lk σ.bx i=some b)
 | [],i,n,s,r,h,_=>by cases h
 | (f,o)::fs,i,n,s,r,h,hM=>by
  simp only [z6x] at h
  split at h
  ·rename_i s1 r1 m hone
   obtain ⟨h1,h2⟩:=zmt hone
   cases hb:s1.okW (E.tyOf f) <;> rw [hb] at h
   ·cases h
   ·simp only [cond_true] at h
    split at h
    ·cases h
     obtain ⟨sg,k1,k2,k3,k4,k5⟩:=zms R hat hone hb hsame ⟨fun j row hr=>(h2 j row hr).1,hM⟩
     refine ⟨[sg],rfl,by simpa using k1,fun k g hg=>?_,k4,k5⟩
     cases k with
     | zero=>simp at hg; subst hg; exact ⟨sg,rfl,k2,k3⟩
     | succ k=>simp at hg
    ·split at h
     ·rename_i s' r' hrest
      cases h
      obtain ⟨sg,k1,k2,k3,k4,k5⟩:=zms R hat hone hb hsame ⟨fun j row hr=>(h2 j row hr).1,fun j row hr=>hM j row (by rw [z2b,hr]; rfl)⟩
      obtain ⟨segs,g1,g2,g3,g4,g5⟩:=zmu R hat hsame hrest (fun j row hr=>hM j row (by
       rw [z2b]
       cases hq:lk r1 j with
       | some row' =>
        have:=(h2 j row' hq).2
        have:=(zix hrest j row hr).2
        omega
       | none=>simpa using hr))
      refine ⟨sg::segs,by simp [g1],⟨sg,segs.flatten,by simp,k1,g2⟩,fun k g hg=>?_,fun j hj=>?_,fun j hj=>?_⟩
      ·cases k with
       | zero=>simp at hg; subst hg; exact ⟨sg,rfl,k2,k3⟩
       | succ k =>
        simp only [List.getElem?_cons_succ] at hg ⊢
        have:=g3 k g hg
        rw [show i+1+k=i+(k+1) by omega] at this
        exact this
      ·simp only [SV.roots,List.mem_append] at hj
       rcases hj with hj | hj
       ·rcases k4 j hj with h | ⟨q,hq⟩
        ·exact .inl h
        ·exact .inr ⟨q,by rw [z2b,hq]; rfl⟩
       ·rcases g4 j hj with h | ⟨q,hq⟩
        ·exact .inl h
        ·right
         rw [z2b]
         cases hz:lk r1 j with
         | some q'=>exact ⟨q',rfl⟩
         | none=>exact ⟨q,by simpa using hq⟩
      ·simp only [SV.boxes,List.mem_append] at hj
       rcases hj with hj | hj
       ·exact k5 j hj
       ·exact g5 j hj
     ·cases h
  ·cases h

theorem zmv (tab:List TI):∀ (fs:List (TypeId×Nat)) (n:Nat) (u:Ty),z4k tab fs n=some u →
  z2e u=(fs.map fun f=>z2e (z14 tab f.1)).flatten∧(∀ k f,fs[k]?=some f→f.2=n+((fs.take k).map fun f=>(z14 tab f.1).sz).sum∧(z14 tab f.1).sz≠0)∧(∀ z:u.T,u.zero=some z→∀ f∈fs,∃ z',(z14 tab f.1).zero=some z')
 | [],n,u,h=>by cases h
 | [(f,o)],n,u,h=>by
  simp only [z4k] at h
  cases hb:(Nat.beq o n&&!Nat.beq (z14 tab f).sz 0) <;> rw [hb] at h
  ·cases h
  ·cases h
   simp only [Bool.and_eq_true,Bool.not_eq_true'] at hb
   refine ⟨by simp,fun k g hg=>?_,fun z hz g hg=>?_⟩
   ·cases k with
    | zero=>simp at hg; subst hg; exact ⟨by simpa using Nat.eq_of_beq_eq_true hb.1,z48 hb.2⟩
    | succ k=>simp at hg
   ·simp at hg; subst hg; exact ⟨z,hz⟩
 | (f,o)::g::l,n,u,h=>by
  simp only [z4k] at h
  cases hb:(Nat.beq o n&&!Nat.beq (z14 tab f).sz 0) <;> rw [hb] at h
  ·cases h
  ·simp only [cond_true] at h
   split at h
   ·rename_i u' hu
    cases h
    simp only [Bool.and_eq_true,Bool.not_eq_true'] at hb
    obtain ⟨h1,h2,h3⟩:=zmv tab (g::l) _ u' hu
    refine ⟨by simp [z2e,h1],fun k q hq=>?_,fun z hz q hq=>?_⟩
    ·cases k with
     | zero=>simp at hq; subst hq; exact ⟨by simpa using Nat.eq_of_beq_eq_true hb.1,z48 hb.2⟩
     | succ k =>
      simp only [List.getElem?_cons_succ] at hq
      obtain ⟨e1,e2⟩:=h2 k q hq
      refine ⟨?_,e2⟩
      rw [e1]
      simp only [List.take_succ_cons,List.map_cons,List.sum_cons]
      omega
    ·simp only [Ty.zero] at hz
     split at hz
     ·rename_i x y hx hy
      rcases List.mem_cons.1 hq with rfl | hq
      ·exact ⟨x,hx⟩
      ·exact h3 y hy q hq
     ·cases hz
   ·cases h

theorem zvs {α:Type} (l:List (List α)):l.flatten.length=(l.map List.length).sum:=by
 induction l with
 | nil=>rfl
 | cons a l ih=>simp [ih]

theorem zvt (R:Rep E w0 ok O σ tm w M) (hat:a.tmps=tm) (T:zb P E.ti=true) {o:Oper} {t:TypeId} {parts:Array (Nat×Operand)} (hop:o.op=.build t parts) {out:Out} (h:ze E σ o=some out) {d:Nat} (hf:σ.fresh d out.2.1 out.2.2=true):z10 P E w0 ok σ w M a o out:=by
 unfold ze z12 at h
 rw [hop] at h
 simp only [] at h
 split at h
 ·rename_i fs ty b ht
  split at h
  ·rename_i z hz
   cases hr:zab (parts.toList.map (·.1)) fs.length <;> rw [hr] at h
   ·cases h
   ·simp only [Bool.not_true,cond_false] at h
    split at h
    ·rename_i s r hb
     cases h
     obtain ⟨fields,u,h1,h2,h3,h4,_⟩:=zav T ht
     obtain ⟨i,v,i1,i2,i3,i4⟩:=z99 T hz
     have htyof:E.tyOf t=.st u:=by simp [Env.tyOf,ht,h3]
     obtain ⟨n1,n2,_⟩:=zmp hr
     obtain ⟨c1,c2,c3⟩:=zmv E.ti fs 0 u h4
     have c3':=c3 (cast (by rw [htyof]) z) (by
      have:∀ (t':Ty) (e:t'=.st u) (z:t'.T),t'.zero=some z→u.zero=some (cast (by rw [e]) z):=by
       intro t' e z hz; subst e; exact hz
      exact this _ htyof z hz)
     have hloc:∀ j row,lk r j=some row→(z4a r M.loc) j=⟨.sl row.e row.t,(none,0,[])⟩:=fun j row hr=>by unfold z4a; rw [hr]
     have hsame:∀ x,Live σ x→Same M { M with loc:=z4a r M.loc } x:=fun x hx=>by
      refine ⟨fun i hi=>?_,fun i hi=>⟨rfl,rfl,rfl⟩⟩
      show z4a r M.loc i=_
      unfold z4a
      cases hq:lk r i with
      | none=>rfl
      | some row=>obtain ⟨r',hr'⟩:=hx.rows i hi; rw [zez hf ⟨row,hq⟩] at hr'; cases hr'
     obtain ⟨segs,g1,g2,g3,g4,g5⟩:=zmu (M':={ M with loc:=z4a r M.loc }) R hat hsame hb hloc
     have hrows:=zix hb
     -- the machine's cells
     have hinfo:∀ f∈fs,∃ it,P.info? f.1=some it∧it.size=(z14 E.ti f.1).sz:=by
      intro f hf'
      obtain ⟨k,hk⟩:=List.getElem?_of_mem hf'
      obtain ⟨ti,k1,k2,k3⟩:=z49 T (t:=f.1) (c2 k f hk).2
      obtain ⟨⟨it,j1,j2,_⟩,_⟩:=(z2f T k1 k3).1
      exact ⟨it,j1,by rw [j2,k2]; rfl⟩
     have hplaces:∃ places:List (Nat×Nat),fields.toList.mapM (fun f=>(P.info? f.type).map fun i=>(f.offset,i.size))=some places∧places=fs.map (fun f=>(f.2,(z14 E.ti f.1).sz)):=by
      have key:∀ (l:List Field) (fs:List (TypeId×Nat)),l.map (fun f=>(f.type,f.offset))=fs→(∀ f∈fs,∃ it,P.info? f.1=some it∧it.size=(z14 E.ti f.1).sz) →
        l.mapM (fun f=>(P.info? f.type).map fun i=>(f.offset,i.size))=some (fs.map (fun f=>(f.2,(z14 E.ti f.1).sz))):=by
       intro l
       induction l with
       | nil=>intro fs hfs _; simp at hfs; subst hfs; rfl
       | cons x l ih =>
        intro fs hfs hin
        subst hfs
        obtain ⟨it,e1,e2⟩:=hin (x.type,x.offset) (by simp)
        have:=ih _ rfl (fun f hf=>hin f (by simp only [List.map_cons,List.mem_cons]; exact .inr hf))
        simp only [List.mapM_cons,Option.bind_eq_bind,Option.pure_def,e1,Option.map_some,Option.bind_some,this,List.map_cons,e2]
      exact ⟨_,key fields.toList fs h2 hinfo,rfl⟩
     obtain ⟨places,p1,p2⟩:=hplaces
     have hz0:v.cells=((fs.map fun f=>z2e (z14 E.ti f.1)).flatten).toArray:=by
      apply Array.ext'
      rw [i3,htyof]
      simp only [z2e]
      rw [c1]
     have hval:parts.map (fun x=>(x.1,a.eval x.2))=(parts.toList.map fun x=>(x.1,a.eval x.2)).toArray:=by apply Array.ext'; simp
     have zlen:∀ f∈fs,(z2e (z14 E.ti f.1)).length=(z14 E.ti f.1).sz:=fun f hf'=>by
      obtain ⟨z',hz'⟩:=c3' f hf'
      exact zd8 _ hz'
     have hfits:zmm (places.toArray[·]?) (fs.map fun f=>z2e (z14 E.ti f.1)) (parts.toList.map fun x=>(x.1,a.eval x.2)):=by
      intro j y hj
      obtain ⟨⟨j',x⟩,hm,he⟩:=List.mem_map.1 hj
      simp only [Prod.mk.injEq] at he
      obtain ⟨rfl,rfl⟩:=he
      have hlt:=n2 j' (List.mem_map.2 ⟨_,hm,rfl⟩)
      have hfj:fs[j']?=some fs[j']:=List.getElem?_eq_getElem hlt
      have hmem:fs[j']∈fs:=List.getElem_mem hlt
      obtain ⟨sg,s1,s2,s3⟩:=g3 j' _ hfj
      have hlk:lk parts.toList j'=some x:=by
       have key:∀ (l:List (Nat×Operand)),(l.map (·.1)).Nodup→(j',x)∈l→lk l j'=some x:=by
        intro l
        induction l with
        | nil=>intro _ h; cases h
        | cons y l ih =>
         intro hn hm
         simp only [List.map_cons,List.nodup_cons] at hn
         rw [show y::l=(y.1,y.2)::l from rfl,zn]
         rcases List.mem_cons.1 hm with rfl | hm
         ·rw [if_pos rfl]
         ·rw [if_neg (fun e=>hn.1 (List.mem_map.2 ⟨_,hm,e.symm⟩))]
          exact ih hn.2 hm
       exact key _ n1 hm
      rw [Nat.zero_add,hlk] at s3
      refine ⟨z2e (z14 E.ti fs[j'].1),by rw [List.getElem?_map,hfj]; rfl,?_,?_⟩
      ·rw [p2]
       simp only [List.getElem?_toArray,List.getElem?_map,hfj,Option.map_some,Option.some.injEq,Prod.mk.injEq]
       refine ⟨?_,(zlen _ hmem).symm⟩
       rw [(c2 j' _ hfj).1,Nat.zero_add,zvs,← List.map_take,List.map_map]
       congr 1
       apply List.map_congr_left
       intro f hf'
       exact (zlen f (List.mem_of_mem_take hf')).symm
      ·rw [zlen _ hmem,← Array.length_toList,s3,s2]; rfl
     have hfill:=zmn (places.toArray[·]?) (parts.toList.map fun x=>(x.1,a.eval x.2)) (fs.map fun f=>z2e (z14 E.ti f.1)) hfits
     have hseg:zd7 (fs.map fun f=>z2e (z14 E.ti f.1)) (parts.toList.map fun x=>(x.1,a.eval x.2))=segs:=by
      apply List.ext_getElem?
      intro j
      rw [zmo _ _ _ (by rw [List.map_map]; exact n1),zmr]
      cases hfj:fs[j]? with
      | none =>
       have hle:=List.getElem?_eq_none_iff.1 hfj
       have hs:segs[j]?=none:=List.getElem?_eq_none_iff.2 (by omega)
       rw [List.getElem?_map,hfj,hs]
       cases lk parts.toList j <;> rfl
      | some f =>
       obtain ⟨sg,s1,s2,s3⟩:=g3 j f hfj
       rw [Nat.zero_add] at s3
       rw [List.getElem?_map,hfj,s1]
       cases hq:lk parts.toList j with
       | some x=>rw [hq] at s3; simp only [] at s3; simp [s3]
       | none=>rw [hq] at s3; simp only [] at s3; rw [s3]; rfl
     have hrun:(execOp a.eval o).run P w=.ok (.value (.agg segs.flatten.toArray)) w:=by
      unfold execOp
      rw [hop]
      have hb2:P.built t (parts.map fun x=>(x.1,a.eval x.2)).toList=some segs.flatten.toArray:=by
       unfold Program.built
       rw [i1,h1]
       simp only [i2,p1]
       rw [hz0,hval]
       rw [← hseg]
       exact hfill
      have:=run_build (P:=P) w t (parts.map fun x=>(x.1,a.eval x.2)) _ hb2
      simp only [Sem.run_bind]
      rw [this]
      rfl
     refine ⟨_,w,_,hrun,Ext.nilRows (fun i row hr=>(hrows i row hr).1) (z1m (s:=.st s) g2 (.inl ⟨rfl,rfl⟩)) ⟨g4,g5⟩⟩
    ·cases h
  ·cases h
 ·cases h

theorem zmw (l:List SV):(z2w l).isCh=true∧(z2w l).count=l.length:=by
 induction l with
 | nil=>exact ⟨rfl,rfl⟩
 | cons a l ih=>exact ⟨rfl,by simp [z2w,SV.count,ih.2]⟩
theorem zvu {l:List SV} (h:∀ s∈l,Live σ s):Live σ (z2w l):=by
 induction l with
 | nil=>exact ⟨by simp [z2w,SV.roots],by simp [z2w,SV.boxes]⟩
 | cons a l ih =>
  have h1:=h a (by simp)
  have h2:=ih fun s hs=>h s (by simp [hs])
  refine ⟨fun i hi=>?_,fun i hi=>?_⟩
  ·simp only [z2w,SV.roots,List.mem_append] at hi
   exact hi.elim (h1.rows i) (h2.rows i)
  ·simp only [z2w,SV.boxes,List.mem_append] at hi
   exact hi.elim (h1.boxes i) (h2.boxes i)
theorem zmx:∀ {l:List (Nat×Operand)} {n:Nat},zac l n=true→l=((l.map (·.2)).zipIdx n).map fun x=>(x.2,x.1)
 | [],n,_=>rfl
 | (i,x)::l,n,h=>by
  simp only [zac,Bool.and_eq_true] at h
  have e:=Nat.eq_of_beq_eq_true h.1
  subst e
  simp only [List.map_cons,List.zipIdx_cons]
  rw [← zmx h.2]

theorem zmy {t:Ty}:∀ {l:List SV} {vs:List Value},l.length=vs.length→(∀ (i:Nat) s v,l[i]?=some s→vs[i]?=some v→zi w0 ok M s v∧s.okW t=true) →
  z1e w0 ok M (z2w l) (vs.flatMap fun v=>v.cells.toList)∧∀ v∈vs,v.cells.size=t.sz
 | [],[],_,h=>⟨rfl,by simp⟩
 | s::l,v::vs,hl,h=>by
  obtain ⟨h1,h2⟩:=h 0 s v rfl rfl
  obtain ⟨cs,h3,h4,h5,h6⟩:=zf6 h1 h2
  obtain ⟨h7,h8⟩:=zmy (l:=l) (vs:=vs) (by simpa using hl) (fun i s v hs hv=>h (i+1) s v hs hv)
  refine ⟨⟨cs,_,by rw [List.flatMap_cons,h5],h3,h7⟩,fun u hu=>?_⟩
  rcases List.mem_cons.1 hu with rfl | hu
  ·rw [h5]; simpa using h6
  ·exact h8 u hu
 | [],_::_,hl,_=>by simp at hl
 | _::_,[],hl,_=>by simp at hl

theorem zvv (R:Rep E w0 ok O σ tm w M) (hat:a.tmps=tm) (T:zb P E.ti=true) {o:Oper} {t:TypeId} {n:Nat} {parts:Array (Nat×Operand)} (hop:o.op=.buildSlice t n parts) {out:Out} (h:ze E σ o=some out) {d:Nat} (hf:σ.fresh d out.2.1 out.2.2=true):z10 P E w0 ok σ w M a o out:=by
 unfold ze z12 at h
 rw [hop] at h
 simp only [] at h
 split at h
 ·rename_i e ty b ht
  obtain ⟨hu,hty⟩:=z6h T ht
  split at h
  ·rename_i hz
   cases hk:(zac parts.toList 0&&(Nat.beq parts.toList.length n&&Nat.ble (n*(E.tyOf e).sz) 16777216)) <;> rw [hk] at h
   ·cases h
   ·simp only [Bool.and_eq_true] at hk
    obtain ⟨k1,k2,k3⟩:=hk
    have k2:=Nat.eq_of_beq_eq_true k2
    have k3:=Nat.le_of_ble_eq_true k3
    simp only [cond_true] at h
    split at h
    ·rename_i l0 hl0
     obtain ⟨e10,e20⟩:=z7b R hat hl0
     obtain ⟨l,hl⟩:∃ l,l=l0.map (SV.asFs (E.tyOf e)):=⟨_,rfl⟩
     rw [← hl] at h
     have e1:l.length=(parts.toList.map (·.2)).length:=by rw [hl,List.length_map,e10]
     have e2:∀ (i:Nat) x s,(parts.toList.map (·.2))[i]?=some x→l[i]?=some s→zi w0 ok M s (a.eval x)∧Live σ s:=by
      intro i x s hx hs
      rw [hl,List.getElem?_map] at hs
      obtain ⟨s0,hs0,rfl⟩:=Option.map_eq_some_iff.1 hs
      obtain ⟨q1,q2⟩:=e20 i x s0 hx hs0
      exact zvj q1 q2
     cases hall:l.all (fun s=>s.okW (E.tyOf e)) <;> rw [hall] at h
     ·cases h
     ·cases h
      simp only [List.all_eq_true] at hall
      obtain ⟨i,v,i1,i2,i4⟩:=zvi T hz
      have hlen:l.length=n:=by rw [e1,List.length_map,k2]
      obtain ⟨r1,r2⟩:=zmy (w0:=w0) (ok:=ok) (M:=M) (t:=E.tyOf e) (l:=l) (vs:=(parts.toList.map (·.2)).map a.eval) (by rw [e1]; simp) (fun i s v hs hv=>by
       rw [List.getElem?_map,Option.map_eq_some_iff] at hv
       obtain ⟨x,hx,rfl⟩:=hv
       exact ⟨(e2 i x s hx hs).1,hall s (List.mem_of_getElem? hs)⟩)
      have hlive:Live σ (z2w l):=zvu fun s hs=>by
       obtain ⟨i,hi⟩:=List.getElem?_of_mem hs
       have hlt:=(List.getElem?_eq_some_iff.1 hi).1
       exact (e2 i _ s (List.getElem?_eq_getElem (by rw [← e1]; exact hlt)) hi).2
      have hd:=zau hf (i:=zp o) ⟨_,z5b _ _ _⟩
      have hsz:=zml _ hz
      have hparts:(parts.map fun x=>(x.1,a.eval x.2)).toList=((((parts.toList.map (·.2)).map a.eval).zipIdx 0).map fun x=>(x.2,x.1)):=by
       have:=zmx k1
       rw [Array.toList_map]
       conv=>lhs; rw [this]
       simp only [List.zipIdx_map,List.map_map]
       rfl
      have hfl:=Go.Great.fill_whole (s:=i.size) (by rw [i4]; omega) ((parts.toList.map (·.2)).map a.eval) ((Array.range (n*i.size)).map (v.cells[· % v.cells.size]!)) (fun v hv=>by rw [i4]; exact r2 v hv) (by simp [← k2])
      have hrun:(Instr.buildSlice t n (parts.map fun x=>(x.1,a.eval x.2))).run P w=.ok (.slice (some ⟨w.heap.size,0,none⟩) n n) (w.alloc (.cells (((parts.toList.map (·.2)).map a.eval).flatMap fun v=>v.cells.toList).toArray e)):=by
       rcases Nat.eq_zero_or_pos n with h0 | h0
       ·have hp:parts=#[]:=by
         apply Array.ext'
         apply List.eq_nil_of_length_eq_zero
         rw [k2,h0]
        subst hp
        subst h0
        have h00:Array.range 0=#[]:=by apply Array.ext'; simp
        simp [Instr.buildSlice,run_underlying hu,sizeOf,typeInfo,i1,Instr.fill,newRow,h00]
       ·refine run_buildSlice (P:=P) w t e n _ _ i v hu i1 i2 (by rw [i4]; omega) ?_ ?_
        ·rw [i4]
         have:0<n*(E.tyOf e).sz:=Nat.mul_pos h0 (by omega)
         omega
        ·rw [hparts]; exact hfl
      refine ⟨.slice (some ⟨w.heap.size,0,none⟩) n n,_,_,?_,Ext.var hd (ziw .nilFunc) r1 ⟨fun i hi=>.inl (hlive.rows i hi),hlive.boxes⟩ ⟨_,?_,.inr ⟨rfl,rfl⟩⟩ ⟨rfl,rfl⟩ (by
       rw [(zmw l).2,hlen]
       exact Nat.le_trans (Nat.le_mul_of_pos_right n (by omega)) k3)⟩
      ·unfold execOp
       rw [hop]
       simp only [Sem.run_bind]
       rw [hrun]
       rfl
      ·show [_]=[Value.slice (some ⟨z2j M.blk (zp o) w.heap.size (zp o),0,none⟩) (z2j M.bn (zp o) (z2w l).count (zp o)) (z2j M.bn (zp o) (z2w l).count (zp o))]
       rw [z1n,z1n,(zmw l).2,hlen]
    ·cases h
  ·cases h
 ·cases h
end
end Go.Proofs.YtjbnebolfnjneaaGreatDoor.Ev
