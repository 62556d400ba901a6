/- Plain values for a program that runs on a machine: an evaluator of loaded code and the proof that it tells what the machine does (part 6 of 6). No conditions: definitions and lemmas z5k any program. -/
import Derived.Test.YtchfjdcfhlhgcaaGreatDoorEv5
import Derived.Shelf.Spec.SlicesInsert
import Derived.Shelf.SlGeneric
import Derived.Lib.AppendZerosOnto
import Derived.Shelf.Spec.SlicesGrow
import Derived.Shelf.SlLaysN
import Derived.Lib.SliceRun
import Derived.Deep.RegionLaw
import Derived.Shelf.Sort.Plain
import Derived.Shelf.Strconv.Itoa4
import Derived.Shelf.Strings.OnBuilder
import Derived.Laws.BitsLemmas
set_option linter.unusedVariables false
set_option linter.unusedSimpArgs false
/- slices.Insert at elements of any flat make: its roads, walked once. Over any program. -/
namespace Go.Proofs.YtchfjdcfhlhgcaaGreatDoor.Ev
open Go.Shelf Go.RowKit Go.Lib Go.Proofs
variable {P : Program} {ρ : Ren}

structure InsOK (P:Program) (ρ:Ren) (e:TypeId) (i0:TypeInfo) (z:Value):Prop where
 f22:Bears P (ρ.f 22) (Body2.n22 ρ)
 ov:∀ vs w,(callFunc (ρ.f 29) vs).run P w=((Extern.SlicesOverlaps.overlaps #[ρ.t 24,ρ.t 24] #[ρ.t 4] vs).run P w).andThen fun v w'=>.ok (.value v) w'
 mixed:P.follows .mixedOrders=true
 t3:P.underlying (ρ.t 3)=some (TypeDesc.int IntKind.i64)
 a3:∀ w,(isAgg (ρ.t 3)).run P w=.ok false w
 t4:P.underlying (ρ.t 4)=some (TypeDesc.bool)
 a4:∀ w,(isAgg (ρ.t 4)).run P w=.ok false w
 t24:P.underlying (ρ.t 24)=some (TypeDesc.slice e)
 a24:∀ w,(isAgg (ρ.t 24)).run P w=.ok false w
 i9:P.info? e=some i0
 z0:i0.zero=some z
 sz:0<i0.size
 zs:z.cells.size=i0.size

end Go.Proofs.YtchfjdcfhlhgcaaGreatDoor.Ev

/- slices.Insert as a call that is handed rows: its contract. Over any program. -/
namespace Go.Proofs.YtchfjdcfhlhgcaaGreatDoor.Ev
open Go.Shelf Go.RowKit Go.Lib Go.Proofs

theorem zwo {P:Program} {E:Env} {w0:World} {ok O:Nat→Prop} {σ:St} {tm:Array Value} {w:World} {M:Map} (R:Rep E w0 ok O σ tm w M) {j:Nat} {e:TypeId} {t:Ty} {xs:List t.T} (hr:lk σ.rows j=some ⟨e,t,xs,false⟩) {s:Nat} (hs:lk σ.sl s=some (.ref j [])) :
  ∃ l:L (.sl e t),M.loc j=⟨.sl e t,l⟩∧l.2.2.map (erase t)=xs∧holds (Rd w0 ok) w (.sl e t) l∧plain w (.sl e t) l∧tm[s]?=some (.slice (l.1.map fun g=>⟨g,0,none⟩) l.2.2.length l.2.1):=by
 obtain ⟨l,h1,h2,h3,_,h5⟩:=R.rows j _ hr
 obtain ⟨u,h6,h7⟩:=R.slots s _ hs
 obtain ⟨cs,⟨e',t',l',h8,rfl⟩,h9⟩:=h7
 rw [h1,z2z] at h8
 cases h8
 refine ⟨l,h1,h2,h3,h5 rfl,?_⟩
 rcases h9 with ⟨h,_⟩ | ⟨_,h⟩
 ·cases h
 ·simp only [za,y12,y13] at h
  rw [h6,← h]
end Go.Proofs.YtchfjdcfhlhgcaaGreatDoor.Ev

/- slices.Grow as a call that is handed a row: its contract. Over any program. -/
namespace Go.Proofs.YtchfjdcfhlhgcaaGreatDoor.Ev
open Go.Shelf Go.RowKit Go.Lib Go.Proofs
variable {P : Program} {ρ : Ren}

def zki (e:TypeId) (t:Ty) (bytes:Nat):OC:=⟨⟨[(0,.ref PIN []),(1,.val (.int .i64))],[(PIN,e,t,false)],[]⟩,⟨[(0,.ref NB [])],[(NB,e,t,false)],[]⟩,
 fun x=>if 0≤x.1.2.1∧(List.length x.2.1.1+x.1.2.1.toNat)*bytes≤LIM then some (((),()),(x.2.1.1,()),()) else none,false⟩

theorem z1bs (L:Lays8.n4 P ρ) {e:TypeId} {i0:TypeInfo} {z:Value} (h25:ρ.t 25=e) (hi0:P.info? e=some i0) (hz0:i0.zero=some z) (hs0:0<i0.size) (hzs:z.cells.size=i0.size) (K:Nat) (hK:i0.size=K) (hb0:0<i0.bytes)
  (w:World) (A:Option Nat) (n c m:Nat) (cs:List Value) (hnc:n≤c) (hcm:c≤maxLen) (hbig:(n+m)*i0.bytes≤140737488355328)
  (hN:A=none→n=0∧c=0) (hA:∀ b,A=some b→∃ cB,w.heap[b]?=some (.cells cB e (0,0))∧cB.size=c*K∧cB.toList.take (n*K)=cs) (hcl:cs.length=n*K) :
  Calls P (ρ.f 4) #[.slice (A.map fun g=>⟨g,0,none⟩) n c,.int .i64 m] w fun ex w'=>∃ A' cap,ex=.returned (.slice (A'.map fun g=>⟨g,0,none⟩) n cap) ∧
   ((A'=none∧n=0∧cap=0)∨∃ g cur,A'=some g∧w'.heap[g]?=some (.cells cur e (0,0))∧cur.size=cap*K∧n≤cap∧cap≤maxLen∧cur.toList.take (n*K)=cs∧(A=some g∨g=w.heap.size)) ∧
   Kept (fun k=>A=some k) w w':=by
 subst h25
 have hnm63:n+m≤140737488355328:=y1o (y5b _ hb0) hbig
 have hmx:maxLen≤9223372036854775807:=by unfold maxLen; omega
 by_cases hroom:n+m≤c
 ·refine (Any8.slices_Grow_room L (A.map fun g=>⟨g,0,none⟩) n c m w hnc (by omega) (by omega) hroom).mono fun ex w' ⟨he,hw⟩=>?_
  subst hw
  refine ⟨A,c,he,?_,Kept.refl _ _⟩
  cases A with
  | none=>exact .inl ⟨rfl,(hN rfl).1,(hN rfl).2⟩
  | some b =>
   obtain ⟨cB,q1,q2,q3⟩:=hA b rfl
   exact .inr ⟨b,cB,rfl,q1,q2,hnc,hcm,q3,.inl rfl⟩
 ·obtain ⟨all,hal,hat,hac⟩:∃ all:List Value,all.length=c*i0.size∧all.take (n*K)=cs∧∀ a,(A.map fun g=>(⟨g,0,none⟩:Addr))=some a→∀ j v,all[j]?=some v→w.cell? (a.add j)=some v:=by
   cases A with
   | none =>
    obtain ⟨h1,h2⟩:=hN rfl
    subst h1; subst h2
    rw [y46] at hcl
    exact ⟨[],by simp,by rw [y4v.1 hcl]; simp,fun a h=>by cases h⟩
   | some b =>
    obtain ⟨cB,q1,q2,q3⟩:=hA b rfl
    refine ⟨cB.toList,by rw [y24,q2,hK],q3,fun a h j v hj=>?_⟩
    cases h
    rw [Addr.add_lit,cell_of_row w b _ cB _ (0,0) q1,← y2q,y18]
    exact hj
  have hztot:∀ N:Nat,(Builtin.zeroCells z.cells N).size=N*K:=fun N=>by
   simp only [Builtin.zeroCells,Array.size_map,Array.size_range,hzs,hK]
  refine (Any8.slices_Grow_grow L i0 z hi0 hz0 hs0 (A.map fun g=>⟨g,0,none⟩) n c m all w hnc (by omega) hbig (by omega) hal (fun h=>by
   cases A with
   | none=>exact (hN rfl).2
   | some b=>cases h) hac).mono fun ex w' ⟨he,hw⟩=>?_
  have hG1:=grownCap_ge w (n+m) c (ρ.t 25)
  have hG2:grownCap w (n+m) c (ρ.t 25)≤maxLen:=grownCap_le_maxLen w (n+m) c (ρ.t 25) (by unfold maxLen; omega)
  generalize grownCap w (n+m) c (ρ.t 25)=G at he hw hG1 hG2
  refine ⟨some w.heap.size,G,he,.inr ⟨w.heap.size,_,rfl,by rw [hw]; exact zdr w.drew _,?_,by omega,hG2,?_,.inr rfl⟩,?_⟩
  ·have h1:c*K+(n+m-c)*K=(n+m)*K:=by rw [← y1i]; congr 1; omega
   have h2:(n+m)*K+(G-(n+m))*K=G*K:=by rw [← y1i]; congr 1; omega
   rw [y3e,y3e,y1v,hztot,hztot,hal,hK,h1,h2]
  ·have h3:n*K≤c*K:=y1z _ hnc
   rw [y5e,y5e,y11,List.take_append_of_le_length (by rw [hal,hK]; exact h3)]
   exact hat
  ·rw [hw]
   exact (Kept.drawn w _ _).trans (Kept.alloc w.drew _ _) (fun _ _ h=>h)

theorem z1bt [Glob P] {ti:List TI} {e:TypeId} {t:Ty} {bytes:Nat} {i0:TypeInfo} {z:Value} (H:Lays8.n4 P ρ) (h25:ρ.t 25=e) (hi0:P.info? e=some i0) (hz0:i0.zero=some z) (hs0:0<i0.size) (hzs:z.cells.size=i0.size) (hK:i0.size=t.sz) (hb:i0.bytes=bytes) (hb0:0<bytes) (hf:t.flat=true):z1c P ti (ρ.f 4) (zki e t bytes):=by
 refine ⟨rfl,fun E hE x y hF w ok O M vs hlen G R=>?_⟩
 obtain ⟨⟨⟨⟩,i,⟨⟩⟩,⟨xs,⟨⟩⟩,⟨⟩⟩:=x
 simp only [zki] at hF
 split at hF
 ·rename_i hc
  cases hF
  obtain ⟨hi0',hby⟩:=hc
  obtain ⟨m,rfl⟩:=y4i hi0'
  clear hi0'
  rw [ye] at hby
  obtain ⟨lx,mx,ex,hx,px,sx⟩:=zwo (P:=P) R (j:=PIN) (e:=e) (t:=t) (xs:=xs) rfl (s:=0) rfl
  obtain ⟨u1,s1,r1⟩:=R.slots 1 _ rfl
  match vs,hlen with
  | [v0,v1],_ =>
  have ev0:v0=.slice (lx.1.map fun g=>⟨g,0,none⟩) lx.2.2.length lx.2.1:=by simpa using sx
  have s1:v1=u1:=by simpa using s1
  obtain ⟨cs,h1,h2⟩:=r1
  have h1:cs=[.int .i64 m]:=h1
  subst h1
  have hv1:v1=.int .i64 m:=by
   rw [s1]
   rcases h2 with ⟨h,_⟩ | ⟨_,h⟩
   ·cases h
   ·cases h; rfl
  subst hv1
  have hxl:xs.length=lx.2.2.length:=by rw [← ex,yp]
  have hfl:∀ l:List (L t),l.flatMap (z7 t)=[]:=fun l=>by rw [y2s]; exact fun q _=>z9t q hf
  have hLIM:LIM=140737488355328:=rfl
  have hcx:lx.2.2.length≤lx.2.1∧lx.2.1≤maxLen:=by
   have:=hx.1
   cases hq:lx.1 with
   | none=>rw [hq] at this; rw [this.1,this.2]; exact ⟨yr _,y2k _⟩
   | some b=>rw [hq] at this; obtain ⟨_,_,_,h3,h4,_⟩:=this; exact ⟨h3,h4⟩
  have hblk:∀ g,lx.1=some g→g∈z7 (M.loc PIN).1 (M.loc PIN).2:=fun g h=>by rw [mx]; simp [z7,h]
  have hown:∀ g,lx.1=some g→¬ ok g∧O g:=fun g h=>by
   obtain ⟨h1,h2⟩:=R.ownR PIN ⟨_,rfl⟩ g (hblk g h)
   refine ⟨h1,h2.resolve_right fun h3=>?_⟩
   have:=hx.1
   rw [h] at this
   obtain ⟨_,_,h4,_⟩:=this
   have:=(y1s.1 h4).1
   omega
  have key:=z1bs H h25 hi0 hz0 hs0 hzs t.sz hK (by rw [hb]; exact hb0) w lx.1 lx.2.2.length lx.2.1 m (lx.2.2.flatMap (za t)) hcx.1 hcx.2 (by rw [hb,← hLIM,← hxl]; exact hby)
   (fun h=>by have:=hx.1; rw [h] at this; exact ⟨by rw [this.1]; rfl,this.2⟩)
   (fun b h=>by
    have:=hx.1
    rw [h] at this
    obtain ⟨cB,fz,q1,q2,q3,q4,q5,q6⟩:=this
    obtain ⟨cB',e',q7,q8⟩:=px.1 b h
    rw [q1] at q7
    cases q7
    exact ⟨cB,q1,q8,q5⟩) (z1s _ _)
  obtain ⟨nm,hnm,F4⟩:=H.f4
  unfold z3f
  rw [z9x F4 (by rfl) hnm]
  rw [ev0]
  refine key.mono fun ex' w' ⟨A',cap,he,k1,k7⟩=>?_
  subst he
  have hOk:∀ g,A'=some g→¬ ok g∧(O g∨w.heap.size≤g):=fun g hg=>by
   rcases k1 with ⟨k1,_⟩ | ⟨g',cur,k1,_,_,_,_,_,k6⟩
   ·rw [k1] at hg; cases hg
   ·rw [k1] at hg
    cases hg
    rcases k6 with k6 | k6
    ·exact ⟨(hown g k6).1,.inl (hown g k6).2⟩
    ·exact ⟨fun h=>by have:=(R.okB g h).1; omega,.inr (by omega)⟩
  have hh:holds (Rd w ok) w' (.sl e t) (A',cap,lx.2.2)∧plain w' (.sl e t) (A',cap,lx.2.2):=by
   rcases k1 with ⟨rfl,k2,k3⟩ | ⟨g,cur,rfl,k2,k3,k4,k5,k6,_⟩
   ·exact ⟨⟨⟨y4v.1 k2,k3⟩,fun q _=>(z7i q hf _ w').1⟩,⟨fun b hb=>(nomatch hb),fun q _=>(z7i q hf (fun _ _ _=>False) w').2⟩⟩
   ·exact ⟨⟨⟨cur,(0,0),k2,k4,k5,Nat.le_of_eq k3.symm,k6,.inl rfl⟩,fun q _=>(z7i q hf _ w').1⟩,⟨fun b hb=>by cases hb; exact ⟨cur,e,k2,k3⟩,fun q _=>(z7i q hf (fun _ _ _=>False) w').2⟩⟩
  have:=zwn (E:=E) (w0:=w) (ok:=ok) (O:=O) (n:=1) (t:=.sl e t) (l:=(A',cap,lx.2.2)) (v:=.slice (A'.map fun g=>⟨g,0,none⟩) lx.2.2.length cap) (w:=w')
   (show z1n _ _ _ from .inr ⟨rfl,rfl⟩) (y2y 0) hh.1 hh.2 (by simp only [z7,hfl]; cases A' <;> simp) (fun k hk=>by
    simp only [z7,hfl,y1t,Option.mem_toList] at hk
    exact hOk k hk) R.okB ⟨k7.os,k7.tape,k7.output,k7.size,fun k hk ho=>k7.block k hk fun h=>ho (hown k h).2⟩ (by simp [zj,NB,PIN])
  obtain ⟨M',R'⟩:=this
  refine ⟨M',_,_,_,.refl,?_⟩
  have hE2:erase (.sl e t) (A',cap,lx.2.2)=xs:=ex
  rw [hE2] at R'
  exact R'
 ·cases hF
theorem z1bu [Glob P] {ti:List TI} (T:zh P ti=true) {e:TypeId} {t:Ty} {bytes:Nat} (H:Lays8.n4 P ρ) (h25:ρ.t 25=e)
  {i:TI} (hi:ti[e]?=some i) (hty:i.ty=t) (hz:t.zero.isSome=true) (hb:i.bytes=bytes) (hf:t.flat=true) (hst:(match i.sh with | .oth=>false | _=>true)=true):z1c P ti (ρ.f 4) (zki e t bytes):=by
 subst hty
 let E:Env:=z10 ti [] (fun _=>none) z3i z3j
 have TE:zh P E.ti=true:=T
 have hiE:E.ti[e]?=some i:=hi
 have htE:E.tyOf e=i.ty:=by rw [Env.tyOf,hiE]
 obtain ⟨z1,hz1⟩:∃ z,(E.tyOf e).zero=some z:=by rw [htE]; exact y4l.1 hz
 obtain ⟨ti',v,i1,i2,i3,i4⟩:=zb6 TE hz1
 obtain ⟨⟨ti2,j1,j2,j3,j4,j5⟩,_⟩:=(z2k TE hiE (by intro hsh; rw [hsh] at hst; cases hst)).1
 rw [i1] at j1
 cases j1
 have hvs:v.cells.size=(E.tyOf e).sz:=by rw [← y24,i3,zh8 _ hz1]
 have hpos:0<(E.tyOf e).sz:=y4u (z6q _ hz1)
 exact z1bt (i0:=ti') (z:=v) H h25 i1 i2 (by rw [i4]; exact hpos) (by rw [hvs,i4]) (by rw [i4,htE]) (by rw [← hb,← j3]) (by rw [← hb,← j3]; exact j4) hf
end Go.Proofs.YtchfjdcfhlhgcaaGreatDoor.Ev

/- slices.Delete at elements of whatever make: walked once; as a call that is handed a row. Over any program. -/
namespace Go.Proofs.YtchfjdcfhlhgcaaGreatDoor.Ev
open Go.Shelf Go.RowKit Go.Lib Go.Proofs
variable {P : Program} {ρ : Ren}

structure DelOK (P:Program) (ρ:Ren) (i0:TypeInfo) (z:Value):Prop where
 mixed:P.follows .mixedOrders=true
 f45:Bears P (ρ.f 45) (SlBodyN.n45 ρ)
 t3:P.underlying (ρ.t 3)=some (TypeDesc.int IntKind.i64)
 a3:∀ w,(isAgg (ρ.t 3)).run P w=.ok false w
 t4:P.underlying (ρ.t 4)=some (TypeDesc.bool)
 a4:∀ w,(isAgg (ρ.t 4)).run P w=.ok false w
 t22:P.underlying (ρ.t 22)=some (TypeDesc.slice (ρ.t 23))
 a22:∀ w,(isAgg (ρ.t 22)).run P w=.ok false w
 i23:P.info? (ρ.t 23)=some i0
 z0:i0.zero=some z
 sz:0<i0.size
 zs:z.cells.size=i0.size
 z1:∀ v∈z.cells.toList,v.oneCell'=true

end Go.Proofs.YtchfjdcfhlhgcaaGreatDoor.Ev

/- slices.Sort as a call that is handed a row: its contract, out of the shelf's. Over any program. -/
namespace Go.Proofs.YtchfjdcfhlhgcaaGreatDoor.Ev
open Go.RowKit Go.Sort

end Go.Proofs.YtchfjdcfhlhgcaaGreatDoor.Ev

/- strconv.FormatInt at the base 10, and strings.Join at a row of the call's own: their contracts, out of the shelf's. Over any program. -/
namespace Go.Proofs.YtchfjdcfhlhgcaaGreatDoor.Ev
open Go.RowKit Go.Sort

@[reducible] def z1bv (P : Program) (name : String) (k : IntKind) (zs : List Int) : Glob P where
 ok:=fun w=>Lib.TabIs P w name k zs
 blk:=fun g=>P.globalNamed name=some g
 lt:=fun w h g hg=>by
  unfold Lib.TabIs World.var? at h
  rw [hg] at h
  simp only [y6] at h
  cases hh:w.heap[g]? with
  | none=>rw [hh] at h; cases h
  | some o=>exact (y1s.1 hh).1
 move:=fun w w' h hb=>by
  unfold Lib.TabIs World.var? at h ⊢
  cases hg:P.globalNamed name with
  | none=>rw [hg] at h; cases h
  | some g =>
   rw [hg] at h
   simp only [y6] at h ⊢
   rw [hb g hg]
   exact h
theorem z1bw {i j:IntKind} {args:List SVal} {x:(Ty.pr (.int i) (.int j)).T} (h:z2g (.pr (.int i) (.int j)) args some=some x):args=[⟨.int i,x.1⟩,⟨.int j,x.2⟩]:=by
 match args with
 | []=>cases h
 | [a] =>
  simp only [z2g,zq] at h
  split at h <;> cases h
 | [a,b] =>
  simp only [z2g,zq] at h
  split at h
  ·rename_i e1
   split at h
   ·rename_i e2
    obtain ⟨ta,xa⟩:=a
    obtain ⟨tb,xb⟩:=b
    simp only at e1 e2 h
    subst e1
    subst e2
    cases h
    rfl
   ·cases h
  ·cases h
 | a::b::c::l =>
  simp only [z2g,zq] at h
  split at h <;> cases h
theorem z1bx {i j:IntKind} {n m:Int} {w:World} {vs:List Value} (h:z8d w [⟨.int i,n⟩,⟨.int j,m⟩] vs):vs=[.int i n,.int j m]:=by
 match vs with
 | []=>exact h.elim
 | [a]=>exact h.2.elim
 | [a,b] =>
  obtain ⟨⟨cs,h1,h2⟩,⟨ds,h3,h4⟩,_⟩:=h
  obtain rfl:cs=[.int i n]:=h1
  obtain rfl:ds=[.int j m]:=h3
  rcases h2 with ⟨h,_⟩ | ⟨_,h2⟩
  ·cases h
  rcases h4 with ⟨h,_⟩ | ⟨_,h4⟩
  ·cases h
  cases h2; cases h4; rfl
 | a::b::c::l=>exact h.2.2.elim
def fe_formatInt:FE:=⟨.pr (.int .i64) (.int .i64),1,.str,fun x=>if x.2=10 ∧ -9223372036854775808≤x.1∧x.1≤9223372036854775807 then some (Lib.itoa x.1) else none⟩
theorem z1by {P : Program} [Glob P] {g : FuncId} {fn : Func} {cd : Code} (hf : P.funcs[g]? = some fn) (hb : fn.body = some cd) (hname : (fn.name == "runtime.NumGoroutine") = false)
  (H:∀ (n:Int),-9223372036854775808≤n→n≤9223372036854775807→∀ w,Glob.ok P w→Calls P g #[.int .i64 n,.int .i64 10] w fun e w'=>e=.returned (.string ⟨(Lib.itoa n).toArray⟩)∧∃ k os,w'=grow (w.drewN k) os):z8 P g fe_formatInt:=by
 refine z8.new rfl fun args vs w x r hG ha hx hr=>?_
 have e:=z1bw hx
 subst e
 have e:=z1bx ha
 subst e
 obtain ⟨n,m⟩:=x
 simp only [fe_formatInt] at hr
 split at hr
 ·rename_i hc
  cases hr
  obtain ⟨hm,h0,h1⟩:=hc
  have hm:m=10:=hm
  subst hm
  unfold z3f
  rw [z9x hf hb hname]
  refine (H n h0 h1 w hG).mono fun e w' ⟨he,k,os,hw⟩=>?_
  subst he
  have hB:Below w.heap.size w w':=by
   rw [hw]
   refine ⟨rfl,rfl,rfl,by simp [grow,World.drewN],fun k hk=>?_⟩
   show ((w.drewN _).heap++os)[k]?=_
   rw [y5n (show k<(w.drewN _).heap.size from hk)]
   rfl
  exact z1br _ hB
 ·cases hr
def zhk (e:TypeId):OC:=⟨⟨[(0,.ref PIN []),(1,.val .str)],[(PIN,e,.str,false)],[]⟩,⟨[(0,.val .str)],[(PIN,e,.str,false)],[]⟩,
 fun x=>if List.length x.2.1.1≤LIM∧(Lib.join x.2.1.1 x.1.2.1).length≤LIM then some ((Lib.join x.2.1.1 x.1.2.1,()),(x.2.1.1,()),()) else none,false⟩
theorem z1bz {P : Program} [Glob P] {ti : List TI} {g : FuncId} {fn : Func} {cd : Code} (hf : P.funcs[g]? = some fn) (hb : fn.body = some cd) (hname : (fn.name == "runtime.NumGoroutine") = false) {e : TypeId}
  (H:∀ (bk o c:Nat) (xs:List ByteArray) (sep:ByteArray) (w:World),(∀ (j:Nat) x,xs[j]?=some x→w.cell? ⟨bk,o+j,none⟩=some (.string x))→bk<w.heap.size→xs.length≤140737488355328→xs.length≤c→(Lib.join (xs.map (·.data.toList)) sep.data.toList).length≤140737488355328 →
   Calls P g #[.slice (some ⟨bk,o,none⟩) xs.length c,.string sep] w fun e w'=>e=.returned (.string ⟨(Lib.join (xs.map (·.data.toList)) sep.data.toList).toArray⟩)∧Below w.heap.size w w')
  (Hn:∀ (a:Option Addr) (c:Nat) (sep:ByteArray) (w:World),Calls P g #[.slice a 0 c,.string sep] w fun e w'=>e=.returned (.string ⟨#[]⟩)∧w'=w):z1c P ti g (zhk e):=by
 refine ⟨rfl,fun E hE x y hF w ok O M vs hvl G R=>?_⟩
 obtain ⟨⟨⟨⟩,sep,⟨⟩⟩,⟨xs,⟨⟩⟩,⟨⟩⟩:=x
 simp only [zhk] at hF
 split at hF
 ·rename_i hc
  cases hF
  have hLIM:LIM=140737488355328:=rfl
  obtain ⟨hle,hjl⟩:=hc
  obtain ⟨lx,mx,ex,hx,px,sx⟩:=zwo (P:=P) R (j:=PIN) (e:=e) (t:=.str) (xs:=xs) rfl (s:=0) rfl
  obtain ⟨u1,s1,r1⟩:=R.slots 1 _ rfl
  match vs,hvl with
  | [v0,v1],_ =>
  have ev0:v0=.slice (lx.1.map fun g=>⟨g,0,none⟩) lx.2.2.length lx.2.1:=by simpa using sx
  have s1:v1=u1:=by simpa using s1
  obtain ⟨cs,h1,h2⟩:=r1
  have h1:cs=[.string ⟨sep.toArray⟩]:=h1
  subst h1
  have hv1:v1=.string ⟨sep.toArray⟩:=by
   rw [s1]
   rcases h2 with ⟨h,_⟩ | ⟨_,h⟩
   ·cases h
   ·cases h; rfl
  subst ev0
  subst hv1
  clear s1 h2
  have hid:∀ m:List (List UInt8),m.map (erase .str)=m:=fun m=>List.map_id m
  have ex:lx.2.2=xs:=by rw [← ex]; exact (hid _).symm
  unfold z3f
  rw [z9x hf hb hname]
  have fin:∀ (w':World),Below w.heap.size w w'→∃ M' w2 ok2 O2,z2i (zhk e).ch w ok O w2 ok2 O2∧Rep E w2 ok2 O2 ((zhk e).ho.fill ((Lib.join xs sep,()),(xs,()),())) #[.string ⟨(Lib.join xs sep).toArray⟩] w' M':=by
   intro w' hb'
   have R2:=R.freeWorld (w':=w') (bs:=[]) Free.nil (Kept.of_below hb' _)
   refine ⟨M,_,_,_,.refl,R2.slotsTo (σ:=⟨[(0,.ref PIN []),(1,.val .str sep)],[(PIN,⟨e,.str,xs,false⟩)],[]⟩) (tm':=#[.string ⟨(Lib.join xs sep).toArray⟩]) (sl:=[(0,.val .str (Lib.join xs sep))]) fun s v hv=>?_⟩
   rw [zu] at hv
   split at hv
   ·rename_i h
    subst h
    cases hv
    exact ⟨⟨_,rfl,[.string ⟨(Lib.join xs sep).toArray⟩],rfl,.inr ⟨rfl,rfl⟩⟩,⟨by simp [SV.roots],by simp [SV.boxes]⟩⟩
   ·cases hv
  cases hg:lx.1 with
  | none =>
   have h0:=hx.1
   rw [hg] at h0
   have hnil:xs=[]:=by rw [← ex]; exact h0.1
   have hl0:lx.2.2.length=0:=by rw [h0.1]; rfl
   rw [hl0]
   refine (Hn none lx.2.1 ⟨sep.toArray⟩ w).mono fun ee w' ⟨he,hw⟩=>?_
   subst he
   subst hw
   have:=fin w' (Below.refl _ _)
   rw [hnil] at this ⊢
   exact this
  | some b =>
   have h0:=hx.1
   rw [hg] at h0
   obtain ⟨cB,fz,q1,q2,q3,q4,q5,q6⟩:=h0
   have hfm:∀ l:List (List UInt8),l.flatMap (za .str)=l.map fun s=>Value.string ⟨s.toArray⟩:=fun l=>by
    induction l with
    | nil=>rfl
    | cons a l ih=>rw [y2b,ih]; rfl
   have h1':(Ty.str).sz=1:=rfl
   rw [h1',y4n,hfm] at q5
   have:=H b 0 lx.2.1 (xs.map fun s=>(⟨s.toArray⟩:ByteArray)) ⟨sep.toArray⟩ w (fun j x hj=>by
    rw [yu,y10] at hj
    obtain ⟨s,hs,rfl⟩:=hj
    have hj':j<lx.2.2.length:=by rw [ex]; exact (yo.1 hs).1
    rw [cell_of_row w b _ cB e fz q1,y18,← y2q]
    have:=congrArg (fun l=>l[j]?) q5
    simp only [y1n hj',yu] at this
    rw [this,ex,hs]; rfl) (Array.getElem?_eq_some_iff.1 q1).1 (by rw [List.length_map]; omega) (by rw [List.length_map,← ex]; exact q2) (by simp only [List.map_map]; rw [← hLIM]; simpa [Function.comp_def] using hjl)
   rw [yp,← ex] at this
   refine this.mono fun ee w' ⟨he,hw⟩=>?_
   subst he
   have hj2:Lib.join ((lx.2.2.map fun s=>(⟨s.toArray⟩:ByteArray)).map (·.data.toList)) sep.toArray.toList=Lib.join xs sep:=by
    rw [ex,y30]; simp [Function.comp_def]
   rw [hj2]
   have:=fin w' hw
   exact this
 ·cases hF

theorem zwp:∃ k:Nat,k=18446744073709551616:=⟨_,rfl⟩
noncomputable def KK:Nat:=Classical.choose zwp
theorem zg:KK=18446744073709551616:=Classical.choose_spec zwp

theorem ze {x:Int} (h1 : -9223372036854775808≤x) (h2:x≤9223372036854775807):z6 x=x:=by
 unfold z6; rw [IntKind.wrap_i64]; omega
theorem zd {i:Nat} (h:i<9223372036854775807):z6 ((i:Int)+1)=((i+1:Nat):Int):=by
 rw [ze (by omega) (by omega)]; rfl
theorem z1q:LIM=140737488355328:=rfl

section
variable {α A R : Type}

theorem z26 (xs:List α) {L:Nat→Int→A→R} {I:List α→A→Prop} {G:List α→A→R}
  (h1:∀ n pre x post a,xs=pre++x::post→I pre a→(∀ a',I (pre++[x]) a'→L n ((pre.length+1:Nat):Int) a'=G post a')→xs[pre.length]?=some x→(pre.length:Int)<xs.length→L (n+1) (pre.length:Int) a=G (x::post) a)
  (h2:∀ n a,I xs a→L (n+1) (xs.length:Int) a=G [] a):∀ n,xs.length<n→∀ a,I [] a→L n 0 a=G xs a:=by
 have main:∀ (post pre:List α) (n:Nat),xs=pre++post→post.length<n→∀ a,I pre a→L n (pre.length:Int) a=G post a:=by
  intro post
  induction post with
  | nil =>
   intro pre n hx hn a ha
   obtain ⟨m,rfl⟩:∃ m,n=m+1:=⟨n-1,by simp at hn; omega⟩
   rw [y1t] at hx
   subst hx
   exact h2 m a ha
  | cons x post ih =>
   intro pre n hx hn a ha
   obtain ⟨m,rfl⟩:∃ m,n=m+1:=⟨n-1,by simp at hn; omega⟩
   refine h1 m pre x post a hx ha (fun a' ha'=>?_) (by rw [hx]; simp) (by rw [hx]; simp; omega)
   have:=ih (pre++[x]) m (by rw [hx]; simp) (by simp at hn; omega) a' ha'
   rw [yl] at this
   simpa using this
 intro n hn a ha
 exact main xs [] n rfl hn a ha

theorem zqx (xs:List α) {L:Nat→Int→R} {p:α→Bool} {r e:R}
  (h1:∀ n (i:Nat) x,xs[i]?=some x→(i:Int)<xs.length→L (n+1) (i:Int)=if p x=true then L n ((i+1:Nat):Int) else r)
  (h2:∀ n,L (n+1) (xs.length:Int)=e) {n:Nat} (hn:xs.length<n):L n 0=if xs.all p=true then e else r:=by
 refine z26 (A:=Unit) (L:=fun n i _=>L n i) (I:=fun _ _=>True) (G:=fun l _=>if l.all p=true then e else r) xs ?_ ?_ n hn () trivial
 ·intro n pre x post _ hx _ ih hg hlt
  rw [h1 n pre.length x hg hlt]
  have:=ih () trivial
  by_cases hp:p x=true
  ·rw [y4 hp,this]; simp [hp]
  ·rw [y5 hp]; simp [hp]
 ·intro n _ _
  simpa using h2 n
theorem z5w {L:Nat→Int→R} {b:Nat} {p:Nat→Bool} {r e:R}
  (h1:∀ n (i:Nat),i<b→L (n+1) (i:Int)=if p i=true then L n ((i+1:Nat):Int) else r) (h2:∀ n,L (n+1) (b:Int)=e) {n:Nat} (hn:b<n):L n 0=if (List.range b).all p=true then e else r:=by
 have:=zqx (List.range b) (L:=L) (p:=p) (r:=r) (e:=e) (fun n i x hx hlt=>by
  rw [List.getElem?_range (by simpa using hlt)] at hx
  cases hx
  exact h1 n i (by simpa using hlt)) (by simpa using h2) (n:=n) (by simpa using hn)
 exact this

theorem z8j [DecidableEq α] (a b:List α) (hl:a.length=b.length) {L:Nat→Int→Option Bool}
  (h1:∀ n (i:Nat) x y,a[i]?=some x→b[i]?=some y→(i:Int)<a.length→L (n+1) (i:Int)=if x=y then L n ((i+1:Nat):Int) else some false)
  (h2:∀ n,L (n+1) (a.length:Int)=some true) {n:Nat} (hn:a.length<n):L n 0=some (decide (a=b)):=by
 have hz:(a.zip b).length=a.length:=by simp [hl]
 have:=zqx (a.zip b) (L:=L) (p:=fun z=>decide (z.1=z.2)) (r:=some false) (e:=some true) (fun n i z hz' hlt=>by
  obtain ⟨x,y⟩:=z
  rw [List.getElem?_zip_eq_some] at hz'
  rw [h1 n i x y hz'.1 hz'.2 (by rw [← hz]; exact hlt)]
  by_cases e:x=y <;> simp [e]) (by rw [hz]; exact h2) (n:=n) (by rw [hz]; exact hn)
 rw [this]
 have key:∀ (a b:List α),a.length=b.length→((a.zip b).all fun z=>decide (z.1=z.2))=decide (a=b):=by
  intro a
  induction a with
  | nil=>intro b hb; cases b with | nil=>rfl | cons=>cases hb
  | cons x a ih =>
   intro b hb
   cases b with
   | nil=>cases hb
   | cons y b =>
    simp only [List.zip_cons_cons,List.all_cons,ih b (by simpa using hb)]
    by_cases h:x=y <;> by_cases h':a=b <;> simp [h,h']
 rw [key a b hl]
 by_cases h:a=b <;> simp [h]

theorem zhl (xs:List α) (z:List α) (hz:z.length=xs.length) {L:Nat→Int→List α→R} {e:List α→R}
  (h1:∀ n (i:Nat) x q,xs[i]?=some x→(i:Int)<xs.length→q.length=xs.length→L (n+1) (i:Int) q=L n ((i+1:Nat):Int) (q.set i x))
  (h2:∀ n q,L (n+1) (xs.length:Int) q=e q) {n:Nat} (hn:xs.length<n):L n 0 z=e xs:=by
 refine z26 (L:=L) (I:=fun pre q=>q.length=xs.length∧q.take pre.length=pre) (G:=fun post _=>e xs) xs ?_ ?_ n hn z ⟨hz,by simp⟩
 ·intro n pre x post q hx hq ih hg hlt
  rw [h1 n pre.length x q hg hlt hq.1]
  refine ih _ ⟨by rw [y21]; exact hq.1,?_⟩
  have hl:pre.length<q.length:=by rw [hq.1]; simpa using hlt
  rw [List.length_append,List.length_singleton,List.take_succ_eq_append_getElem (by simpa using hl)]
  rw [List.getElem_set_self,y58 (yr _),hq.2]
 ·intro n q hq
  rw [h2 n q]
  have:=hq.2
  rw [← hq.1,y31] at this
  rw [this]
def zhm (p:α→Bool) (xs:List α):Int:=match xs.findIdx? p with | some i=>(i:Int) | none => -1
theorem zbg (xs:List α) {L:Nat→Int→Option Int} {p:α→Bool}
  (h1:∀ n (i:Nat) x,xs[i]?=some x→(i:Int)<xs.length→L (n+1) (i:Int)=if p x=true then some (i:Int) else L n ((i+1:Nat):Int))
  (h2:∀ n,L (n+1) (xs.length:Int)=some (-1)) {n:Nat} (hn:xs.length<n):L n 0=some (zhm p xs):=by
 have:=z26 (A:=Unit) (L:=fun n i _=>L n i) (I:=fun _ _=>True) (G:=fun post _=>some (match post.findIdx? p with | some j=>((xs.length-post.length+j:Nat):Int) | none => -1)) xs ?_ ?_ n hn () trivial
 ·rw [this]
  unfold zhm
  cases xs.findIdx? p <;> simp
 ·intro n pre x post _ hx _ ih hg hlt
  have h:=ih () trivial
  rw [h1 n pre.length x hg hlt,List.findIdx?_cons]
  by_cases hp:p x=true
  ·rw [y4 hp,y4 hp]
   simp only [hx,yl,y1k]
   congr 2
   omega
  ·rw [y5 hp,y5 hp,h]
   cases post.findIdx? p with
   | none=>rfl
   | some j =>
    simp only [hx,yl,y1k,y20]
    congr 2
    omega
 ·intro n _ _
  exact h2 n
end
end Go.Proofs.YtchfjdcfhlhgcaaGreatDoor.Ev
