/- Plain values for a program that runs on a machine: an evaluator of loaded code and the proof that it tells what the machine does (part 4 of 6). No conditions: definitions and lemmas z5k any program. -/
import Derived.Test.YtchfjdcfhlhgcaaGreatDoorEv3
import Derived.Laws.Cover3
import Derived.Orders
import Derived.Deep.LoopGhost
set_option linter.unusedVariables false
set_option linter.unusedSimpArgs false
/- A stretch of a row's flat elements, written z5k. Over any program. -/
namespace Go.Proofs.YtchfjdcfhlhgcaaGreatDoor.Ev
open Go.RowKit

section
variable {P : Program} {E : Env} {w0 : World} {ok O : Nat → Prop} {σ σ' : St} {tm : Array Value} {w w' : World} {M : Map} {a : Act}

theorem z19e {t:Ty} {l:L t} {v:Value} (hv:v.cells=(za t l).toArray) (hsz:t.sz≠0) (n:Nat):(Builtin.zeroCells v.cells n).toList=(List.replicate n l).flatMap (za t):=by
 have hvs:v.cells.size=t.sz:=by rw [hv]; simp [z1y]
 have:Builtin.zeroCells v.cells n=((List.replicate n l).flatMap (za t)).toArray:=by
  apply Array.ext
  ·rw [size_zeroCells,hvs,y1v,z1s,y29]
  ·intro k hk1 hk2
   rw [size_zeroCells,hvs] at hk1
   simp only [Builtin.zeroCells,Array.getElem_map,Array.getElem_range,hvs]
   have hm:k % t.sz<t.sz:=y4m _ (by omega)
   rw [getElem!_pos _ _ (by rw [hvs]; exact hm)]
   have hq:k / t.sz<n:=by rw [y5t (by omega)]; exact hk1
   have hf:=ziq t (List.replicate n l) (k / t.sz) l (by simp [hq]) (k % t.sz) hm
   rw [y3x,y56] at hf
   have h7:((List.replicate n l).flatMap (za t))[k]?=some v.cells[k % t.sz]:=by
    rw [hf,yj (by rw [z1y]; exact hm)]
    simp only [hv,y4p]
   rw [yo] at h7
   obtain ⟨_,h7⟩:=h7
   rw [y4p]
   exact h7.symm
 rw [this]

theorem Rep.same (R:Rep E w0 ok O σ tm w M) {j:Nat} {r:Row} (hr:lk σ.rows j=some r):∃ M',Rep E w0 ok O (σ.setRow j r) tm w M':=by
 obtain ⟨l,hl,he,hh,hnd,hpl⟩:=R.rows j r hr
 have:=R.upd (bs:=[]) (l':=l) hr hl (Kept.refl _ _) hh hnd hpl rfl (fun k hk=>.inl hk) Free.nil (fun _ _ _ p _=>z4g.refl _ _ _) (fun _ _ _ p _=>z4g.refl _ _ _)
 rw [he] at this
 exact ⟨_,this⟩

theorem z19f {R0:Type} {res:R0} (R:Rep E w0 ok O σ tm w M) (hat:a.tmps=tm) (T:zh P E.ti=true) {xt ty:TypeId} {x:Operand} {k:St→Option R0} (h:zpa E σ xt x k=some res) :
  ∃ w' σ' M',(Builtin.clear_ #[xt] ty #[a.eval x]).run P w=.ok (.tuple #[]) w'∧k σ'=some res∧Rep E w0 ok O σ' tm w' M':=by
 unfold zpa at h
 split at h
 ·rename_i e e' u b j lo n hti hx
  obtain ⟨hu,hty⟩:=z7a T hti
  obtain ⟨⟨cs,⟨e1,t1,l1,hl1,hln,A,c,rfl,hc,hA⟩,hw⟩,hlive⟩:=z1b R hat hx
  have hv:a.eval x=.slice A n c:=by
   rcases hw with ⟨h5,_⟩ | ⟨_,h5⟩
   ·cases h5
   ·simp only [y12,y13] at h5; exact h5.symm
  split at h
  ·rename_i r hr
   split at h
   ·rename_i z hz
    cases hb:((Nat.beq r.e e&&decide (r.t=E.tyOf e))&&r.t.flat) <;> rw [hb] at h
    ·cases h
    ·simp only [yi] at h
     simp only [yh,y1d] at hb
     obtain ⟨⟨b1,b2⟩,b3⟩:=hb
     have b1:=yq b1
     obtain ⟨l,hl,he,hh,hnd,hpl⟩:=R.rows j r hr
     rw [hl] at hl1
     cases hl1
     rw [hv]
     by_cases hn:n=0
     ·subst hn
      obtain ⟨M',R'⟩:=R.same hr
      refine ⟨w,_,M',?_,h,?_⟩
      ·cases A <;> simp [Builtin.clear_,run_underlying hu]
      ·have:z29 r.xs lo (List.replicate 0 z)=r.xs:=by simp [z29]
       rw [this]; exact R'
     ·have hA:=hA (.inl (by omega))
      cases hg:l.1 with
      | none =>
       have:=hh.1
       rw [hg] at this
       rw [this.1] at hln
       simp at hln
       omega
      | some g =>
       rw [hg] at hA
       obtain ⟨zl,z1,z2,z3,z4⟩:=z8c r.t hz
       have hz':(E.tyOf e).zero=some (b2▸z):=by
        have key:∀ (t:Ty) (e2:r.t=t),t.zero=some (e2▸z):=by intro t e2; subst e2; exact hz
        exact key _ b2
       obtain ⟨ti,v,i1,i2,i3,i4⟩:=zb6 T hz'
       have hcz:z2j (E.tyOf e)=z2j r.t:=by rw [b2]
       have hvc:v.cells=(za r.t zl).toArray:=by apply y1u; rw [i3,hcz,← z2]
       have hsz:r.t.sz≠0:=zgy b3
       have hys:=z19e hvc hsz n
       obtain ⟨cur,fz,k1,k2,k3,k4⟩:=zv8 R hr hl hg b3 (lo:=lo) (ys:=List.replicate n zl) (by rw [y29]; exact hln)
       have hyl:((List.replicate n zl).flatMap (za r.t)).length=n*r.t.sz:=by rw [z1s,y29]
       rw [y29] at k2 k3 k4
       have hone:=zhe (List.replicate n zl)
       obtain ⟨w',e1,e2,e3,e4⟩:=zji P g r.e fz ((List.replicate n zl).flatMap (za r.t)) (lo*r.t.sz) 0 cur w k1 (by rw [hyl]; simpa using k2) (by rw [hyl]; simpa using k3) hone
       rw [hyl,y2o] at e2
       have R2:=k4 w' e2 e3 e4
       have hex:l.2.2.map (erase r.t)=r.xs:=he
       rw [List.map_replicate,z1,hex] at R2
       refine ⟨w',_,_,?_,h,R2⟩
       ·rw [hA]
        have hzv:(zeroValue e).run P w=.ok v w:=by simp [zeroValue,typeInfo,i1,i2]
        obtain ⟨m,rfl⟩:∃ m,n=m+1:=⟨n-1,by omega⟩
        have e1':(storeCells ⟨g,lo*r.t.sz,none⟩ (Builtin.zeroCells v.cells (m+1)).toList).run P w=.ok () w':=by rw [hys]; exact e1
        simp [Builtin.clear_,run_underlying hu,hzv,e1']
   ·cases h
  ·cases h
 ·cases h
end

section
variable {P : Program} {E : Env} {w0 : World} {ok O : Nat → Prop} {σ σ' : St} {tm : Array Value} {w w' : World} {M : Map} {a : Act}

theorem zva {e:TypeId} {t:Ty} {l:L (.sl e t)} {p:List Step} {x:Loc} (hp:ixs p≤0) (h:zy (.sl e t) l p=some x):p=[]:=by
 match p with
 | []=>rfl
 | .f _::_=>cases h
 | .u::_=>cases h
 | .ix _::_=>simp [ixs] at hp
structure RetHd (e:TypeId) (t t':Ty) (l:L (.sl e t)) (l':L (.sl e t')):Prop where
 blk:l'.1=l.1
 cap:l'.2.1=l.2.1
 len:l'.2.2.length=l.2.2.length
 sz:t'.sz=t.sz
theorem z9u {j:Nat} {e:TypeId} {t t':Ty} {l:L (.sl e t)} {l':L (.sl e t')} (hl:M.loc j=⟨.sl e t,l⟩) (H:RetHd e t t' l l'):∀ {s:SV} {cs:List Value},(∀ p∈s.paths j,ixs p≤0)→zc w0 ok M s cs→zc w0 ok (z1o M j ⟨.sl e t',l'⟩) s cs
 | .val t x,cs,h,hs=>hs
 | .ref i p,cs,h,hs=>by
  by_cases hi:i=j
  ·subst hi
   obtain ⟨e1,t1,l1,h1,rfl⟩:=hs
   rw [hl] at h1
   have hp:=zva (h p (by simp [SV.paths])) h1
   subst hp
   rw [z2z] at h1
   cases h1
   exact ⟨e,t',l',(congrArg (fun z:Loc=>zy z.1 z.2 []) (z1w M.loc i ⟨.sl e t',l'⟩)).trans (z2z _ _),by simp [za,H.blk,H.cap,H.len]⟩
  ·have:(z1o M j ⟨.sl e t',l'⟩).loc i=M.loc i:=z3e _ _ hi
   simp only [zc] at hs ⊢
   rw [this]; exact hs
 | .vw i lo n,cs,h,hs=>by
  by_cases hi:i=j
  ·subst hi
   obtain ⟨e1,t1,l1,h1,h2,A,c,rfl,h3,h4⟩:=hs
   rw [hl] at h1
   cases h1
   exact ⟨e,t',l',z1w _ _ _,by rw [H.len]; exact h2,A,c,rfl,by rw [H.cap]; exact h3,fun hh=>by rw [H.blk,H.sz]; exact h4 hh⟩
  ·have:(z1o M j ⟨.sl e t',l'⟩).loc i=M.loc i:=z3e _ _ hi
   simp only [zc] at hs ⊢
   rw [this]; exact hs
 | .ls i,cs,h,hs=>hs
 | .st s,cs,h,hs=>z9u hl H (s:=s) h hs
 | .pr a b,cs,h,hs=>by
  obtain ⟨c1,c2,rfl,h1,h2⟩:=hs
  exact ⟨c1,c2,rfl,z9u hl H (fun p hp=>h p (by simp [SV.paths,hp])) h1,z9u hl H (fun p hp=>h p (by simp [SV.paths,hp])) h2⟩
 | .bp i p o,cs,h,hs=>hs
 | .ep i p n f o,cs,h,hs=>by
  by_cases hi:i=j
  ·subst hi
   obtain ⟨e1,t1,l1,g,h1,h6,h7,rfl⟩:=hs
   rw [hl] at h1
   have hp:=zva (h p (by simp [SV.paths])) h1
   subst hp
   rw [z2z] at h1
   cases h1
   exact ⟨e,t',l',g,(congrArg (fun z:Loc=>zy z.1 z.2 []) (z1w M.loc i ⟨.sl e t',l'⟩)).trans (z2z _ _),by rw [H.blk]; exact h6,by rw [H.len]; exact h7,by rw [H.sz]⟩
  ·have:(z1o M j ⟨.sl e t',l'⟩).loc i=M.loc i:=z3e _ _ hi
   simp only [zc] at hs ⊢
   rw [this]; exact hs
 | .lp i n,cs,h,hs=>hs
 | .clo g c,cs,h,hs=>by
  obtain ⟨caps,rfl,h1⟩:=hs
  exact ⟨caps,rfl,z9u hl H (s:=c) h h1⟩
 | .no,cs,h,hs=>hs
 | .un,cs,h,hs=>hs
 | .tup _,_,_,h=>h.elim
 | .cns _ _,_,_,h=>h.elim
 | .nl,_,_,h=>h.elim
theorem z19g {j:Nat} {e:TypeId} {t t':Ty} {l:L (.sl e t)} {l':L (.sl e t')} (hl:M.loc j=⟨.sl e t,l⟩) (H:RetHd e t t' l l') {s:SV}:∀ {cs:List Value},(∀ p∈s.paths j,ixs p≤0)→z1m w0 ok M s cs→z1m w0 ok (z1o M j ⟨.sl e t',l'⟩) s cs:=by
 induction s with
 | cns a b iha ihb =>
  intro cs h hs
  obtain ⟨c1,c2,rfl,h1,h2⟩:=hs
  exact ⟨c1,c2,rfl,z9u hl H (fun p hp=>h p (by simp [SV.paths,hp])) h1,ihb (fun p hp=>h p (by simp [SV.paths,hp])) h2⟩
 | nl=>intro cs h hs; exact hs
 | _=>intro cs h hs; exact z9u hl H h hs
theorem z19h {j:Nat} {e:TypeId} {t t':Ty} {l:L (.sl e t)} {l':L (.sl e t')} (hl:M.loc j=⟨.sl e t,l⟩) (H:RetHd e t t' l l') {s:SV}:∀ {vs:List Value},(∀ p∈s.paths j,ixs p≤0)→z2h w0 ok M s vs→z2h w0 ok (z1o M j ⟨.sl e t',l'⟩) s vs:=by
 induction s with
 | cns a b iha ihb =>
  intro vs h hs
  obtain ⟨v,vs',rfl,⟨cs,h1,h3⟩,h2⟩:=hs
  exact ⟨v,vs',rfl,⟨cs,z9u hl H (fun p hp=>h p (by simp [SV.paths,hp])) h1,h3⟩,ihb (fun p hp=>h p (by simp [SV.paths,hp])) h2⟩
 | nl=>intro cs h hs; exact hs
 | _=>intro vs h hs; exact hs.elim
theorem z19i {j:Nat} {e:TypeId} {t t':Ty} {l:L (.sl e t)} {l':L (.sl e t')} (hl:M.loc j=⟨.sl e t,l⟩) (H:RetHd e t t' l l') {s:SV} {v:Value} (h:∀ p∈s.paths j,ixs p≤0) (hs:zr w0 ok M s v):zr w0 ok (z1o M j ⟨.sl e t',l'⟩) s v:=by
 rcases z35 hs with rfl | ⟨c,vs,rfl,rfl,h1⟩ | ⟨cs,h1,h2⟩
 ·trivial
 ·exact ⟨vs,rfl,z19h hl H h h1⟩
 ·exact z1t (z9u hl H h h1) h2

theorem z19j {R0:Type} {res:R0} (R:Rep E w0 ok O σ tm w M) {j:Nat} {k:St→Option R0} (h:zpi E σ j k=some res) :
  ∃ w1 ok1 O1 σ' M',Chg E w0 ok O w1 ok1 O1∧k σ'=some res∧Rep E w1 ok1 O1 σ' tm w M':=by
 unfold zpi at h
 split at h
 ·rename_i e e2 u xs hr
  cases hb:(u.flat&&E.rdm) <;> rw [hb] at h
  ·cases h
  simp only [yh] at hb
  simp only [yi] at h
  obtain ⟨R1,kS,kB⟩:=R.killIn j 0
  have hr1:lk (σ.killIn j 0).rows j=some ⟨e,.sl e2 u,xs,false⟩:=hr
  obtain ⟨l,hl,hel,hh,hnd,hpl⟩:∃ l:L (.sl e (.sl e2 u)),M.loc j=⟨.sl e (.sl e2 u),l⟩∧erase (.sl e (.sl e2 u)) l=xs∧holds (Rd w0 ok) w (.sl e (.sl e2 u)) l∧(z7 (.sl e (.sl e2 u)) l).Nodup∧plain w (.sl e (.sl e2 u)) l:=by
   obtain ⟨l,a1,a2,a3,a4,a5⟩:=R.rows j _ hr
   exact ⟨l,a1,a2,a3,a4,a5 rfl⟩
  -- the blocks that become only read
  obtain ⟨bs,hbs⟩:∃ bs,bs=l.2.2.flatMap (z7 (.sl e2 u)):=⟨_,rfl⟩
  have hbl:z7 (.sl e (.sl e2 u)) l=l.1.toList++bs:=by rw [hbs]; rfl
  have hin:∀ k∈bs,k∈z7 (.sl e (.sl e2 u)) l:=fun k hk=>by rw [hbl]; exact yd.2 (.inr hk)
  have hj:∃ r,lk (σ.killIn j 0).rows j=some r:=⟨_,hr1⟩
  have own:∀ k∈bs,¬ ok k∧(O k∨w0.heap.size≤k):=fun k hk=>R1.ownR j hj k (by rw [hl]; exact hin k hk)
  have B:Based w0 ok O w (fun k=>ok k∨k∈bs) (fun k=>(O k∨w0.heap.size≤k)∧k∉bs) :=
   ⟨R.kept,fun k h=>.inl h,R.okB,fun k h=>h.1,fun k h=>h.elim .inl fun hk=>.inr (own k hk).2⟩
  have H:∀ (t:Ty) (x:t.T) (cs:List Value),Rd w0 ok t x cs→Rd w (fun k=>ok k∨k∈bs) t x cs:=fun _ _ _ h=>B.rd h
  -- the elements, only read
  have hex:∀ ys:List (L (.sl e2 u)),(∀ y∈ys,y∈l.2.2)→∃ zs:List (L (.rd (.sl e2 u))),zs.flatMap (za (.rd (.sl e2 u)))=ys.flatMap (za (.sl e2 u))∧zs.map (erase (.rd (.sl e2 u)))=ys.map (erase (.sl e2 u))∧zs.length=ys.length∧∀ z∈zs,Rd w (fun k=>ok k∨k∈bs) (.sl e2 u) z.1.1 z.1.2:=by
   intro ys
   induction ys with
   | nil=>intro _; exact ⟨[],rfl,rfl,rfl,by simp⟩
   | cons y ys ih =>
    intro hy
    obtain ⟨zs,h1,h2,h3,h4⟩:=ih (fun z hz=>hy z (y27 _ hz))
    have hym:=hy y (by simp)
    have hrd:=z78 (F:=Rd w0 ok) H (fun k hk=>.inr (by rw [hbs]; exact y1e.2 ⟨y,hym,hk⟩)) (hh.2 y hym)
    refine ⟨rdL hrd::zs,?_,?_,by simp [h3],?_⟩
    ·rw [y2b,y2b,h1]; rfl
    ·rw [y1j,y1j,h2]; rfl
    ·intro z hz
     rcases yx.1 hz with rfl | hz
     ·exact hrd
     ·exact h4 z hz
  obtain ⟨zs,z1,z2,z3,z4⟩:=hex l.2.2 (fun _ h=>h)
  have S:RetHd e (.sl e2 u) (.rd (.sl e2 u)) l (l.1,l.2.1,zs):=⟨rfl,rfl,z3,rfl⟩
  have hnb:z7 (.sl e (.rd (.sl e2 u))) (l.1,l.2.1,zs)=l.1.toList:=by
   have:zs.flatMap (z7 (.rd (.sl e2 u)))=[]:=y2s.2 fun z _=>rfl
   show l.1.toList++zs.flatMap (z7 (.rd (.sl e2 u)))=_
   rw [this,y1t]
  have hsame:(z1o M j ⟨.sl e (.rd (.sl e2 u)),(l.1,l.2.1,zs)⟩).loc j=⟨.sl e (.rd (.sl e2 u)),(l.1,l.2.1,zs)⟩:=z1w _ _ _
  have hother:∀ i,i≠j→(z1o M j ⟨.sl e (.rd (.sl e2 u)),(l.1,l.2.1,zs)⟩).loc i=M.loc i:=fun i hi=>z3e _ _ hi
  have hrows:∀ i r,lk ((σ.killIn j 0).setRow j ⟨e,.rd (.sl e2 u),xs,false⟩).rows i=some r→(i=j∧r=⟨e,.rd (.sl e2 u),xs,false⟩)∨(i≠j∧lk (σ.killIn j 0).rows i=some r):=by
   intro i r h
   have h:lk (up (σ.killIn j 0).rows j _) i=some r:=h
   rw [z7h] at h
   split at h
   ·rename_i hi; subst hi; rw [hr1] at h; cases h; exact .inl ⟨rfl,rfl⟩
   ·rename_i hi; exact .inr ⟨fun e=>hi e.symm,h⟩
  have hbr:∀ i,(∃ r,lk ((σ.killIn j 0).setRow j ⟨e,.rd (.sl e2 u),xs,false⟩).rows i=some r)→∃ r,lk (σ.killIn j 0).rows i=some r:=by
   rintro i ⟨r,h⟩
   rcases hrows i r h with ⟨rfl,_⟩ | ⟨_,h⟩
   ·exact hj
   ·exact ⟨r,h⟩
  have hfr:∀ i,(∃ r,lk (σ.killIn j 0).rows i=some r)→∃ r,lk ((σ.killIn j 0).setRow j ⟨e,.rd (.sl e2 u),xs,false⟩).rows i=some r:=by
   rintro i ⟨r,h⟩
   show ∃ r,lk (up (σ.killIn j 0).rows j _) i=some r
   rw [z7h]
   split
   ·rw [h]; exact ⟨_,rfl⟩
   ·exact ⟨r,h⟩
  have hsub:∀ i,∀ k∈z7 ((z1o M j ⟨.sl e (.rd (.sl e2 u)),(l.1,l.2.1,zs)⟩).loc i).1 ((z1o M j ⟨.sl e (.rd (.sl e2 u)),(l.1,l.2.1,zs)⟩).loc i).2,k∈z7 (M.loc i).1 (M.loc i).2:=by
   intro i k hk
   by_cases hi:i=j
   ·subst hi
    rw [hsame] at hk
    have hk:k∈z7 (.sl e (.rd (.sl e2 u))) (l.1,l.2.1,zs):=hk
    rw [hnb] at hk
    rw [hl]
    exact yd.2 (.inl hk)
   ·rw [hother i hi] at hk; exact hk
  have hnbs:∀ i,(∃ r,lk (σ.killIn j 0).rows i=some r)→∀ k∈z7 ((z1o M j ⟨.sl e (.rd (.sl e2 u)),(l.1,l.2.1,zs)⟩).loc i).1 ((z1o M j ⟨.sl e (.rd (.sl e2 u)),(l.1,l.2.1,zs)⟩).loc i).2,k∉bs:=by
   intro i hi k hk hb
   by_cases hij:i=j
   ·subst hij
    rw [hsame] at hk
    have hk:k∈z7 (.sl e (.rd (.sl e2 u))) (l.1,l.2.1,zs):=hk
    rw [hnb] at hk
    rw [hbl] at hnd
    exact (y1g.1 hnd).2.2 k hk k hb rfl
   ·rw [hother i hij] at hk
    exact R1.rr i j hij hi hj k hk (by rw [hl]; exact hin k hb)
  refine ⟨w,_,_,_,z1o M j ⟨.sl e (.rd (.sl e2 u)),(l.1,l.2.1,zs)⟩,.inr ⟨hb.2,B⟩,h,?_⟩
  constructor
  ·intro s v hs
   obtain ⟨z,h1,h2⟩:=R1.slots s v hs
   exact ⟨z,h1,z19i hl S (kS s v hs) (zha H h2)⟩
  ·intro i r hi
   rcases hrows i r hi with ⟨rfl,rfl⟩ | ⟨hne,hi⟩
   ·refine ⟨(l.1,l.2.1,zs),hsame,?_,⟨?_,fun z hz=>z4 z hz⟩,?_,fun _=>⟨?_,fun z hz=>trivial⟩⟩
    ·show zs.map (erase (.rd (.sl e2 u)))=xs
     rw [z2,← hel]; rfl
    ·have h1:=hh.1
     simp only [] at h1 ⊢
     cases hg:l.1 with
     | none =>
      rw [hg] at h1
      simp only [] at h1 ⊢
      refine ⟨y4v.1 (by rw [z3,h1.1]; rfl),h1.2⟩
     | some g =>
      rw [hg] at h1
      obtain ⟨cur,fz,c1,c2,c3,c4,c5,c6⟩:=h1
      exact ⟨cur,fz,c1,by rw [z3]; exact c2,c3,c4,by rw [z1,z3]; exact c5,by rw [z3]; exact c6⟩
    ·show (z7 (.sl e (.rd (.sl e2 u))) (l.1,l.2.1,zs)).Nodup
     rw [hnb]
     cases l.1 <;> simp
    ·exact hpl.1
   ·obtain ⟨l2,h1,h2,h3,h4⟩:=R1.rows i r hi
    exact ⟨l2,(hother i hne).trans h1,h2,z6g H h3,h4⟩
  ·intro i b hi
   obtain ⟨cs,h1,h2⟩:=R1.boxes i b hi
   exact ⟨cs,z19g hl S (kB i b hi) (zds H h1),h2⟩
  ·intro i i' hne hi hi' k hk hk'
   exact R1.rr i i' hne (hbr i hi) (hbr i' hi') k (hsub i k hk) (hsub i' k hk')
  ·exact R1.bb
  ·intro i i' hi hi' hk
   exact R1.rb i i' (hbr i hi) hi' (hsub i _ hk)
  ·intro i hi k hk
   have h1:=R1.ownR i (hbr i hi) k (hsub i k hk)
   have hn:=hnbs i (hbr i hi) k hk
   exact ⟨fun ho=>ho.elim h1.1 hn,.inl ⟨h1.2,hn⟩⟩
  ·intro i hi
   have h1:=R1.ownB i hi
   have hn:M.blk i∉bs:=fun hb=>R1.rb j i hj hi (by rw [hl]; exact hin _ hb)
   exact ⟨fun ho=>ho.elim h1.1 hn,.inl ⟨h1.2,hn⟩⟩
  ·rintro k (hk | hk)
   ·obtain ⟨h1,h2⟩:=R1.okB k hk
    exact ⟨y3k h1 R.kept.size,fun h=>h.1.elim h2 fun h=>absurd h1 (y2r.2 h)⟩
   ·exact ⟨z1l hh k (hin k hk),fun h=>h.2 hk⟩
  ·intro s v hs
   have:=R1.liveS s v hs
   exact ⟨fun i hi=>hfr i (this.rows i hi),this.boxes⟩
  ·intro i b hi
   have:=R1.liveB i b hi
   exact ⟨fun i hi=>hfr i (this.rows i hi),this.boxes⟩
  ·exact Kept.refl _ _
  ·intro i hi hr2
   have h1:=R1.pin i hi (hbr i hr2)
   by_cases hij:i=j
   ·subst hij
    rw [hl] at h1
    rw [hsame]
    show za (.sl e (.rd (.sl e2 u))) (l.1,l.2.1,zs)=_
    rw [← h1]
    simp [za,z3]
   ·rw [hother i hij]; exact h1
  ·exact R1.pinB
 ·exact ⟨w0,ok,O,σ,M,.refl,h,R⟩
theorem zhf {R0:Type} {res:R0} {c:OC}:∀ (hs:List (Nat×SK)) (xs:List Operand) {w0:World} {ok O:Nat→Prop} {σ:St} {M:Map} {k:St→Option R0},Rep E w0 ok O σ tm w M→fzC E c hs xs σ k=some res →
  ∃ w1 ok1 O1 σ' M',Chg E w0 ok O w1 ok1 O1∧k σ'=some res∧Rep E w1 ok1 O1 σ' tm w M'
 | [],_,w0,ok,O,σ,M,k,R,h=>⟨w0,ok,O,σ,M,.refl,h,R⟩
 | hd::hs,[],w0,ok,O,σ,M,k,R,h=>⟨w0,ok,O,σ,M,.refl,h,R⟩
 | hd::hs,x::xs,w0,ok,O,σ,M,k,R,h=>by
  simp only [fzC] at h
  split at h
  ·rename_i n p
   cases hp:ztf c p <;> rw [hp] at h
   ·exact zhf hs xs R h
   ·simp only [yi] at h
    split at h
    ·obtain ⟨w1,ok1,O1,σ1,M1,hc,h1,R1⟩:=z19j R h
     obtain ⟨w2,ok2,O2,σ2,M2,hc2,h2,R2⟩:=zhf hs xs R1 h1
     exact ⟨w2,ok2,O2,σ2,M2,hc.trans hc2,h2,R2⟩
    ·exact zhf hs xs R h
  ·exact zhf hs xs R h
end

def z38 (P:Program) (E:Env) (w0:World) (O:Nat→Prop):Prop:=∀ (w1:World) (O1:Nat→Prop),Mov w0 O w1 O1→∀ {R0:Type} {res:R0} {ok:Nat→Prop} {σ:St} {a:Act} {w:World} {M:Map} {o:Oper} {g:FuncId} {c:OC} {f:Operand} {args:Array Operand} {ts:Array TypeId} {k:St→Option R0},
 E.opn (z12 o)=some (g,c)→Rep E w1 ok O1 σ a.tmps w M→o.op=.call ⟨.value f,args,ts⟩→inB o.dst a.tmps→a.defers=[]→zgo E σ (z12 o) o.dst g c f args.toList ts.toList k=some res →
 ∀ {next:Act→World→Prop} {Q:Exit→Act→World→Prop},z1x E w1 ok O1 res a.tmps.size k next→o.wp P a w next Q
theorem z38.none {P:Program} {E:Env} {w0:World} {O:Nat→Prop} (h:∀ g,E.opn g=.none):z38 P E w0 O:=fun _ _ _ _ _ _ _ _ _ _ _ _ _ _ _ _ _ hk=>by rw [h] at hk; cases hk
theorem z38.chg {P:Program} {E:Env} {w0:World} {ok O:Nat→Prop} (K:z38 P E w0 O) {w1:World} {ok1 O1:Nat→Prop} (hc:Chg E w0 ok O w1 ok1 O1):z38 P E w1 O1:=fun _ _ m=>K _ _ (hc.mov.trans m)

theorem z19k {R:Type} {a b:Option R} {r:R} (h:zgk a b=some r):a=some r∧b=some r:=by
 unfold zgk at h
 split at h
 ·rename_i e; exact ⟨h,e▸h⟩
 ·cases h

section
variable {P : Program} {E : Env} {w0 : World} {ok O : Nat → Prop} {σ σ' : St} {tm : Array Value} {w w' : World} {M : Map} {a : Act}

theorem z19l {R0:Type} {res:R0} (R:Rep E w0 ok O σ a.tmps w M) (T:zh P E.ti=true) {xt yt:TypeId} {x:Operand} {k:Bool→Option R0} (h:zgl E σ xt x k=some res) (op:BinOp) (hop:op=.eql∨op=.neq) :
  ∃ b,k b=some res∧(do eqGuard op xt x (.const (.slice none 0 0)) (a.eval x) (.slice none 0 0); binOp op xt (a.eval x) (.slice none 0 0):Sem Value).run P w=.ok (.bool (if op=.eql then b else !b)) w:=by
 unfold zgl at h
 cases hk:E.isSl xt <;> rw [hk] at h
 ·cases h
 ·simp only [y14,yn] at h
  obtain ⟨e,hu⟩:=zjl T hk
  split at h
  ·rename_i s hs
   rw [z17] at h
   obtain ⟨⟨t,xs⟩,h1,h⟩:=yk.1 h
   obtain ⟨cs,hr,hw⟩:=z88 R rfl hs h1
   cases t with
   | sl e' t' =>
    simp only [] at h hr hw
    obtain ⟨A,c,rfl,hl,hx⟩:=hr
    have hv:a.eval x=.slice A (List.length xs) c:=by
     rcases hw with ⟨h5,_⟩ | ⟨_,h5⟩
     ·cases h5
     ·simp only [y12,y13] at h5; exact h5.symm
    have hrun:(do eqGuard op xt x (.const (.slice none 0 0)) (a.eval x) (.slice none 0 0); binOp op xt (a.eval x) (.slice none 0 0):Sem Value).run P w=.ok (.bool (if op=.eql then A.isNone else !A.isNone)) w:=by
     rw [hv]
     have hg:eqGuard op xt x (.const (.slice none 0 0)) (.slice A (List.length xs) c) (.slice none 0 0)=pure ():=by cases op <;> rfl
     rw [hg]
     simp only [Sem.run_bind,Sem.run_pure,Result.andThen_ok]
     rcases hop with rfl | rfl
     ·simp only [binOp,y7]
      simp [Go.run_equal_slice_nil w xt e A _ c hu]
     ·simp only [reduceCtorEq,y8]
      exact Go.run_neq_slice_nil w xt e A _ c hu
    refine ⟨A.isNone,?_,hrun⟩
    split at h
    ·obtain ⟨g1,g2⟩:=z19k h
     cases A <;> assumption
    ·rename_i hne
     have:xs≠[]:=fun e=>hne (by rw [e]; rfl)
     obtain ⟨ad,rfl,_⟩:=hx this
     exact h
   | _=>cases h
  ·cases h

theorem Rep.reput (R:Rep E w0 ok O σ tm w M) {d:Tmp} {s:SV} {v:Value} (hv:tm[d]?=some v) (hs:zr w0 ok M s v) (hl:Live σ s):Rep E w0 ok O (σ.put (some d) s) tm w M:=by
 have hd:d<tm.size:=(y1s.1 hv).1
 have:=R.putV (d:=some d) hs hl (fun x hx=>by cases hx; exact hd)
 have e:z3p tm (some d) v=tm:=by
  simp only [z3p]
  apply Array.ext_getElem?
  intro i
  by_cases hi:d=i
  ·subst hi; rw [hv]; simp [hd]
  ·rw [y53 hi]
 rw [e] at this
 exact this

theorem z19m {R0:Type} {res:R0} (R:Rep E w0 ok O σ tm w M) {d:Nat} {dst:Option Tmp} {ty:TypeId} {k:St→Option R0} (h:zpb E σ d dst ty k=some res):∃ σ' M',k σ'=some res∧Rep E w0 ok O σ' tm w M':=by
 unfold zpb at h
 split at h
 ·exact ⟨σ,M,h,R⟩
 ·rename_i s
  split at h
  ·rename_i j hj
   split at h
   ·rename_i b hb
    cases hk:((E.tyOf b.ty).flat||Nat.beq b.c.count 0) <;> rw [hk] at h
    ·exact ⟨σ,M,h,R⟩
    ·simp only [yi] at h
     obtain ⟨u,h1,cs,h2,h3⟩:=R.slots s _ hj
     obtain ⟨σ1,t,l,g1,g2,g3,g4,g5,g6⟩:=z5s depth w0 ok O σ tm w M _ cs _ R h2 h
     cases t with
     | sl e t =>
      simp only [] at g1
      cases hp:Nat.blt (32*d) PIN <;> rw [hp] at g1
      ·cases g1
      ·simp only [yi] at g1
       have fin:∀ (t':Ty) (l':L (.sl e t')),holds (Rd w0 ok) w (.sl e t') l'→plain w (.sl e t') l'→z7 (.sl e t') l'=z7 (.sl e t) l→za (.sl e t') l'=cs→k ((σ1.addRow (32*d) ⟨e,t',erase (.sl e t') l',false⟩).put (some s) (.ref (32*d) []))=some res→∃ σ' M',k σ'=some res∧Rep E w0 ok O σ' tm w M':=by
        intro t' l' b1 b2 b3 b4 b5
        have R2:=g6.rep.addOwn (32*d) (y19 hp) l' b1 b2 (b3▸g6.free)
        refine ⟨_,_,b5,R2.reput h1 ⟨cs,⟨e,t',l',(congrArg (fun z:Loc=>zy z.1 z.2 []) (z1w M.loc (32*d) ⟨.sl e t',l'⟩)).trans rfl,b4.symm⟩,h3⟩ ⟨fun i hi=>?_,by simp [SV.boxes]⟩⟩
        simp [SV.roots] at hi
        subst hi
        exact ⟨_,z5q _ _ _⟩
       split at g1
       ·rename_i e2 u' b2 hty hx
        cases hsz:Nat.beq u'.sz t.sz <;> rw [hsz] at g1
        ·cases g1
        ·have hsz:=yq hsz
         simp only [yi] at g1
         obtain ⟨lb,lc,lx⟩:=l
         have hl0:lx=[]:=List.map_eq_nil_iff.1 hx
         subst hl0
         refine fin (.rd u') (lb,lc,[]) ⟨?_,by simp⟩ ⟨?_,by simp⟩ (by simp [z7]) g4 g1
         ·have h8:=g2.1
          cases lb with
          | none=>exact ⟨rfl,h8.2⟩
          | some g =>
           obtain ⟨cur,fz,c1,c2,c3,c4,c5,c6⟩:=h8
           exact ⟨cur,fz,c1,y2k _,c3,by show lc*u'.sz≤_; rw [hsz]; exact c4,by simp,.inr (by simp)⟩
         ·intro b hb
          obtain ⟨cur,e3,c1,c2⟩:=g3.1 b hb
          exact ⟨cur,e3,c1,by show _=lc*u'.sz; rw [hsz]; exact c2⟩
       ·exact fin t l g2 g3 rfl g4 g1
     | _=>cases g1
   ·cases h
  ·cases h

theorem zvb [Glob P] {R0:Type} {res:R0} (R:Rep E w0 ok O σ a.tmps w M) (T:zh P E.ti=true) (EQ:z2f P E) (S:SpecOK P E w0 O) (K:z38 P E w0 O) {o:Oper} (hin:inB o.dst a.tmps) (hd:a.defers=[]) {k:St→Option R0} (h:z9e E σ o k=some res)
  {next:Act→World→Prop} {Q:Exit→Act→World→Prop} (hn:z1x E w0 ok O res a.tmps.size k next):o.wp P a w next Q:=by
 have nil:∀ {op:BinOp} {xt yt:TypeId} {x:Operand} {k':Bool→Option R0},o.op=.binOp op xt x (.const (.slice none 0 0)) yt→(op=.eql∨op=.neq)→zgl E σ xt x k'=some res→(∀ b,k' b=k (σ.put o.dst (.val .bool (if op=.eql then b else !b))))→o.wp P a w next Q:=by
  intro op xt yt x k' hop ho h hk
  obtain ⟨b,h1,h2⟩:=z19l R T h op ho (yt:=yt)
  unfold Oper.wp execOp
  rw [hop]
  have he:a.eval (.const (.slice none 0 0))=.slice none 0 0:=rfl
  simp only [he]
  rw [Sem.run_bind,h2]
  simp only [Result.andThen_ok,Sem.run_pure,Oper.upon_value]
  rw [hk] at h1
  refine hn.at _ _ w M h1 ?_ (by rw [z1u,z4b]) (by rw [z4v]; exact hd)
  rw [z1u]
  exact R.putV (s:=.val .bool _) ⟨_,rfl,.inr ⟨rfl,rfl⟩⟩ (z36 _ _) hin
 unfold z9e at h
 split at h
 ·rename_i t x y hop
  obtain ⟨w',σ',M',w2,ok2,O2,hc,h1,h2,h3⟩:=z196 (P:=P) R rfl T h
  unfold Oper.wp execOp
  rw [hop]
  simp only [Sem.run_bind,h1,Result.andThen_ok,Sem.run_pure]
  refine hn _ _ _ hc _ _ w' M' h2 ?_ (by rw [z1u,z4b]) (by rw [z4v]; exact hd)
  rw [z1u]
  exact h3.putUn undef hin
 ·rename_i args ts hop
  split at h
  ·rename_i x y t tx hargs hts
   have ha:args=#[x,y]:=by apply y1u; rw [hargs]
   have ht:ts=#[t,tx]:=by apply y1u; rw [hts]
   obtain ⟨v,w',σ',M',w2,ok2,O2,hc,h1,h2,h3⟩:=z19d (P:=P) (ty:=o.type) R rfl T hin h
   unfold Oper.wp execOp
   rw [hop,ha,ht]
   simp only [resolve,invoke,builtin,Sem.run_bind,Sem.run_pure,Result.andThen_ok]
   have hm:(#[x,y].map a.eval)=#[a.eval x,a.eval y]:=by simp
   rw [hm,h1]
   simp only [Result.andThen_ok,Oper.upon_value]
   refine hn _ _ _ hc _ _ w' M' h2 ?_ (by rw [z1u,z4b]) (by rw [z4v]; exact hd)
   rw [z1u]
   exact h3
  ·cases h
 ·rename_i args ts hop
  split at h
  ·rename_i x t hargs hts
   have ha:args=#[x]:=by apply y1u; rw [hargs]
   have ht:ts=#[t]:=by apply y1u; rw [hts]
   obtain ⟨w',σ',M',h1,h2,h3⟩:=z19f (P:=P) (ty:=o.type) R rfl T h
   unfold Oper.wp execOp
   rw [hop,ha,ht]
   simp only [resolve,invoke,builtin,Sem.run_bind,Sem.run_pure,Result.andThen_ok]
   have hm:(#[x].map a.eval)=#[a.eval x]:=by simp
   rw [hm,h1]
   simp only [Result.andThen_ok,Oper.upon_value]
   refine hn.at _ _ w' M' h2 ?_ (by rw [z1u,z4b]) (by rw [z4v]; exact hd)
   rw [z1u]
   exact h3.putUn (.tuple #[]) hin
  ·cases h
 ·rename_i bt bn bp hop
  refine zqa R T EQ S hin hd h fun w2 ok2 O2 hc σ1 a1 w1 M1 h1 R1 hn1 hd1=>?_
  obtain ⟨σ2,M2,h2,R2⟩:=z19m R1 h1
  exact hn _ _ _ hc _ _ w1 M2 h2 R2 hn1 hd1
 ·rename_i xt x yt hop
  exact nil hop (.inl rfl) h (fun b=>by simp)
 ·rename_i xt x yt hop
  exact nil hop (.inr rfl) h (fun b=>by simp)
 ·rename_i f args ts hop
  split at h
  ·exact zqa R T EQ S hin hd h hn
  ·rename_i g c hk
   obtain ⟨w1,ok1,O1,σ1,M1,hc,h1,R1⟩:=zhf (c:=c) _ _ R h
   exact (K.chg hc) _ _ .refl hk R1 hop hin hd h1 (hn.chg hc)
 ·exact zqa R T EQ S hin hd h hn

theorem zvc (R:Rep E w0 ok O σ tm w M) {d:Tmp} {b:Bool} (h:lk σ.sl d=some (.val .bool b)):tm[d]?=some (.bool b):=by
 obtain ⟨u,h1,cs,h2,h3⟩:=R.slots d _ h
 have:=zgx h2 (h3:z1n .bool u cs)
 rw [h1,this]

theorem zqb {R0:Type} {res:R0} (R:Rep E w0 ok O σ tm w M) {all:List Oper} {i:Nat} {o:Oper} {k:St→Option R0} (h:zpj all i o σ k=some res):∃ σ',k σ'=some res∧Rep E w0 ok O σ' tm w M:=by
 unfold zpj at h
 cases hg:ziy all i <;> rw [hg] at h
 ·exact ⟨σ,h,R⟩
 ·simp only [yi] at h
  split at h
  ·rename_i d hd
   split at h
   ·rename_i b hb
    have hv:=zvc R hb
    split at h
    ·rename_i hbt
     subst hbt
     exact ⟨_,h,R.reput hv ⟨_,rfl,.inr ⟨rfl,rfl⟩⟩ (z36 _ _)⟩
    ·rename_i hbf
     have:b=false:=by simpa using hbf
     subst this
     exact ⟨_,h,R.reput hv ⟨_,rfl,.inr ⟨rfl,rfl⟩⟩ (z36 _ _)⟩
   ·cases h
  ·cases h

theorem zjo {R0:Type} {res:R0} (R:Rep E w0 ok O σ tm w M) {all:List Oper} {o:Oper} {yes no:Option R0} (h:z45 all o σ yes no=some res) :
  (Region.wanted o (yielded all.toArray tm)=true∧yes=some res)∨(Region.wanted o (yielded all.toArray tm)=false∧no=some res):=by
 unfold z45 at h
 split at h
 ·rename_i hg; exact .inl ⟨by simp [Region.wanted,hg],h⟩
 ·rename_i g want hg
  split at h
  ·rename_i d hd
   split at h
   ·rename_i b hb
    have hv:=zvc R hb
    have hy:yielded all.toArray tm g=some b:=by
     unfold z9f at hd
     split at hd
     ·rename_i q hq
      have:all.toArray[g]?=some q:=by simpa using hq
      simp [yielded,this,hd,hv]
     ·cases hd
    split at h
    ·rename_i e; exact .inl ⟨by simp [Region.wanted,hg,hy,e],h⟩
    ·rename_i e; exact .inr ⟨by simp [Region.wanted,hg,hy,e],h⟩
   ·rename_i hb
    obtain ⟨u,h1,vs,h2,h3⟩:=R.slots d _ hb
    have hy:yielded all.toArray tm g=none:=by
     unfold z9f at hd
     split at hd
     ·rename_i q hq
      have:all.toArray[g]?=some q:=by simpa using hq
      simp [yielded,this,hd,h1,h2]
     ·cases hd
    exact .inr ⟨by simp [Region.wanted,hg,hy],h⟩
   ·cases h
  ·cases h

theorem zqc [Glob P] {R0:Type} {res:R0} {w0:World} {ok O:Nat→Prop} (T:zh P E.ti=true) (EQ:z2f P E) (S:SpecOK P E w0 O) (K:z38 P E w0 O) {all:List Oper} {n:Nat} (hB:∀ o∈all,∀ d,o.dst=some d→d<n) {k:St→Option R0} {Q:Exit→Act→World→Prop} (hQ:z1x E w0 ok O res n k (Q .normal)) :
  ∀ (l:List Oper) (i:Nat) (σ:St) (a:Act) (w:World) (M:Map),all.drop i=l→z6k E all i l σ k=some res→Rep E w0 ok O σ a.tmps w M→a.tmps.size=n→a.defers=[]→wpOps P all.toArray Q (List.range' i l.length) a w
 | [],i,σ,a,w,M,hl,h,R,hn,hd=>by
  simp only [y3f,List.range'_zero,wpOps]
  exact hQ.at σ a w M h R hn hd
 | o::l,i,σ,a,w,M,hl,h,R,hn,hd=>by
  have hi:all[i]?=some o:=by
   have:(all.drop i)[0]?=some o:=by rw [hl]; rfl
   rwa [y39,y2o] at this
  have hl':all.drop (i+1)=l:=by
   have:(all.drop i).drop 1=l:=by rw [hl]; rfl
   rwa [y5f] at this
  have hia:all.toArray[i]?=some o:=by simpa using hi
  have hin:inB o.dst a.tmps:=fun d hd=>by rw [hn]; exact hB o (ym hi) d hd
  rw [y1k,List.range'_succ]
  simp only [wpOps,hia]
  simp only [z6k] at h
  rcases zjo R h with ⟨hw,h⟩ | ⟨hw,h⟩
  ·rw [y4 hw]
   refine .inl (zvb R T EQ S K hin hd h ?_)
   intro w2 ok2 O2 hc σ1 a1 w1 M1 h1 R1 hn1 hd1
   obtain ⟨σ2,h2,R2⟩:=zqb R1 h1
   exact zqc T EQ (S.chg hc) (K.chg hc) hB (hQ.chg hc) l (i+1) σ2 a1 w1 M1 hl' h2 R2 (by rw [hn1,hn]) hd1
  ·rw [y5 (by rw [hw]; simp)]
   refine zqc T EQ S K hB hQ l (i+1) _ _ w M hl' h ?_ (by rw [z1u,z4b,hn]) (by rw [z4v]; exact hd)
   rw [z1u]
   exact R.putSkip hin
end

section
variable {P : Program} {E : Env} {w0 : World} {ok O : Nat → Prop} {σ σ' : St} {tm : Array Value} {w w' : World} {M : Map} {a : Act}

abbrev hdrL {e:TypeId} {t:Ty} (l:L (.sl e t)):Value:=.slice (l.1.map fun g=>⟨g,0,none⟩) l.2.2.length l.2.1

theorem z19n {R0:Type} {res:R0} {tx e:TypeId} {u:Ty} {b:Operand} (hf:u.flat=true) {c:St→List u.T→Option R0} (h:z81 E σ tx e u b c=some res) :
  ∃ ys,z81 E σ tx e u b (fun σ1 ys=>some (σ1,ys))=some (σ,ys)∧c σ ys=some res:=by
 unfold z81 at h ⊢
 split at h
 ·rename_i s hs
  simp only [hs,hf,yi] at h ⊢
  rw [z17] at h ⊢
  obtain ⟨v,h1,h2⟩:=yk.1 h
  rw [h1,y6]
  obtain ⟨vt,vx⟩:=v
  simp only [] at h2 ⊢
  split at h2
  ·cases hb:E.isStr tx <;> rw [hb] at h2
   ·cases h2
   ·simp only [yi] at h2 ⊢
    rw [z58] at h2 ⊢
    obtain ⟨ys,h3,h4⟩:=yk.1 h2
    exact ⟨ys,by rw [h3]; rfl,h4⟩
  ·cases hb:E.isSl tx <;> rw [hb] at h2
   ·cases h2
   ·simp only [yi] at h2 ⊢
    rw [z58] at h2 ⊢
    obtain ⟨ys,h3,h4⟩:=yk.1 h2
    exact ⟨ys,by rw [h3]; rfl,h4⟩
  ·cases h2
 ·cases h

theorem z19o {F:Frz} {e e2:TypeId} {u:Ty} {l:L (.sl e (.sl e2 u))} {n g:Nat} {l0 l1:L (.sl e2 u)} (hf:u.flat=true) (hh:holds F w (.sl e (.sl e2 u)) l) (hp:plain w (.sl e (.sl e2 u)) l) (hnd:(z7 (.sl e (.sl e2 u)) l).Nodup) (hg:l.1=some g) (h0:l.2.2[n]?=some l0)
  {w1 w2:World} (h1:holds F w1 (.sl e2 u) l1) (p1:plain w1 (.sl e2 u) l1) (hb:l1.1=l0.1∨l1.1=some w.heap.size) (hk:Kept (fun k=>l0.1=some k) w w1) {cur:Array Value} {fz:Nat×Nat} (hc:w.heap[g]?=some (.cells cur e fz))
  (h2:w2.heap[g]?=some (.cells (cur.toList.take n++[hdrL l1]++cur.toList.drop (n+1)).toArray e fz)) (h3:∀ k,k≠g→w2.heap[k]?=w1.heap[k]?) :
  holds F w2 (.sl e (.sl e2 u)) (l.1,l.2.1,l.2.2.set n l1)∧plain w2 (.sl e (.sl e2 u)) (l.1,l.2.1,l.2.2.set n l1)∧(z7 (.sl e (.sl e2 u)) (l.1,l.2.1,l.2.2.set n l1)).Nodup ∧
  ∀ k∈z7 (.sl e (.sl e2 u)) (l.1,l.2.1,l.2.2.set n l1),k∈z7 (.sl e (.sl e2 u)) l∨k=w.heap.size:=by
 have hnf:∀ y:L (.sl e2 u),z7 (.sl e2 u) y=y.1.toList:=fun y=>by
  have:y.2.2.flatMap (z7 u)=[]:=y2s.2 fun z _=>z9t z hf
  simp only [z7,this,y1t]
 obtain ⟨hlt,hx0⟩:=yo.1 h0
 have hsplit:l.2.2=l.2.2.take n++l0::l.2.2.drop (n+1):=by
  rw [← hx0,← y2i hlt,y2d]
 have hset:l.2.2.set n l1=l.2.2.take n++l1::l.2.2.drop (n+1):=by rw [y3p,y4 hlt]
 have bl:z7 (.sl e (.sl e2 u)) l=g::((l.2.2.take n).flatMap (z7 (.sl e2 u))++(l0.1.toList++(l.2.2.drop (n+1)).flatMap (z7 (.sl e2 u)))):=by
  conv=>lhs; unfold z7; rw [hg,hsplit]
  simp [hnf l0]
 have bl':z7 (.sl e (.sl e2 u)) (l.1,l.2.1,l.2.2.set n l1)=g::((l.2.2.take n).flatMap (z7 (.sl e2 u))++(l1.1.toList++(l.2.2.drop (n+1)).flatMap (z7 (.sl e2 u)))):=by
  conv=>lhs; unfold z7; simp only []; rw [hg,hset]
  simp [hnf l1]
 have hall:∀ k∈z7 (.sl e (.sl e2 u)) l,k<w.heap.size:=fun k hk=>z1l hh k hk
 have hne:∀ k∈(l.2.2.take n).flatMap (z7 (.sl e2 u))++(l.2.2.drop (n+1)).flatMap (z7 (.sl e2 u)),k≠g∧l0.1≠some k∧k<w.heap.size:=by
  intro k hk
  rw [bl] at hnd
  obtain ⟨n1,n2⟩:=y1x.1 hnd
  obtain ⟨n3,n4,n5⟩:=y1g.1 n2
  obtain ⟨n6,n7,n8⟩:=y1g.1 n4
  have hmem:k∈z7 (.sl e (.sl e2 u)) l:=by
   rw [bl]
   rcases yd.1 hk with h | h
   ·exact y27 _ (yd.2 (.inl h))
   ·exact y27 _ (yd.2 (.inr (yd.2 (.inr h))))
  refine ⟨fun he=>?_,fun he=>?_,hall k hmem⟩
  ·subst he
   rcases yd.1 hk with h | h
   ·exact n1 (yd.2 (.inl h))
   ·exact n1 (yd.2 (.inr (yd.2 (.inr h))))
  ·rcases yd.1 hk with h | h
   ·exact n5 k h k (yd.2 (.inl (by rw [he]; simp))) rfl
   ·exact n8 k (by rw [he]; simp) k h rfl
 have same:∀ j∈(l.2.2.take n).flatMap (z7 (.sl e2 u))++(l.2.2.drop (n+1)).flatMap (z7 (.sl e2 u)),w2.heap[j]?=w.heap[j]?:=fun j hj=>by
  obtain ⟨a1,a2,a3⟩:=hne j hj
  rw [h3 j a1]; exact hk.block j a3 a2
 have gl1:∀ k,l1.1=some k→k≠g:=by
  intro k hk2 he
  subst he
  rcases hb with hb | hb
  ·rw [hb] at hk2
   rw [bl] at hnd
   exact (y1x.1 hnd).1 (yd.2 (.inr (yd.2 (.inl (by rw [hk2]; simp)))))
  ·rw [hb] at hk2
   cases hk2
   exact y23 _ (hall _ (by rw [bl]; simp))
 have mv1:∀ k∈z7 (.sl e2 u) l1,w2.heap[k]?=w1.heap[k]?:=fun k hk=>by
  rw [hnf l1] at hk
  exact h3 k (gl1 k (by simpa using hk))
 have elem:∀ y∈l.2.2.set n l1,y=l1∨(y∈l.2.2∧∀ k∈z7 (.sl e2 u) y,w2.heap[k]?=w.heap[k]?):=by
  intro y hy
  rw [hset] at hy
  rcases yd.1 hy with hy | hy
  ·exact .inr ⟨y2c hy,fun k hk=>same k (yd.2 (.inl (y1e.2 ⟨y,hy,hk⟩)))⟩
  ·rcases yx.1 hy with rfl | hy
   ·exact .inl rfl
   ·exact .inr ⟨y3d hy,fun k hk=>same k (yd.2 (.inr (y1e.2 ⟨y,hy,hk⟩)))⟩
 refine ⟨?_,?_,?_,?_⟩
 ·obtain ⟨q1,q2⟩:=hh
  rw [hg] at q1
  obtain ⟨cur',fz',c1,c2,c3,c4,c5,c6⟩:=q1
  rw [hc] at c1
  cases c1
  refine ⟨?_,fun y hy=>?_⟩
  ·simp only [hg]
   have hcells:∀ z:List (L (.sl e2 u)),z.flatMap (za (.sl e2 u))=z.map hdrL:=fun z=>by
    induction z with
    | nil=>rfl
    | cons y z ih=>rw [y2b,ih]; rfl
   have hsz:(Ty.sl e2 u).sz=1:=rfl
   rw [hsz] at c4 c5 c6
   rw [hcells] at c5
   have hncur:n<cur.toList.length:=by
    rw [y24]; omega
   have hcs:cur.toList.take n++[hdrL l1]++cur.toList.drop (n+1)=cur.toList.set n (hdrL l1):=by
    rw [y3p,y4 hncur]; simp
   refine ⟨_,fz,h2,by simpa using c2,c3,?_,?_,?_⟩
   ·rw [hcs,hsz]; simpa using c4
   ·rw [hcs,hsz,hcells,y5c,← c5]
    simp only [y21]
    rw [List.take_set]
   ·rw [hsz]; simpa using c6
  ·rcases elem y hy with rfl | ⟨hy,hk⟩
   ·exact z1z mv1 h1
   ·exact z1z hk (q2 y hy)
 ·obtain ⟨q1,q2⟩:=hp
  refine ⟨fun b hb2=>?_,fun y hy=>?_⟩
  ·have hbg:b=g:=by
    have:l.1=some b:=hb2
    rw [hg] at this; cases this; rfl
   subst hbg
   obtain ⟨cur',e',c1,c2⟩:=q1 b hg
   rw [hc] at c1
   cases c1
   refine ⟨_,e,h2,?_⟩
   have hncur:n<cur.toList.length:=by
    obtain ⟨q3,_⟩:=hh
    rw [hg] at q3
    obtain ⟨cur',fz',d1,d2,d3,d4,d5,d6⟩:=q3
    rw [hc] at d1
    cases d1
    have hsz:(Ty.sl e2 u).sz=1:=rfl
    rw [hsz] at d4
    rw [y24]; omega
   have hcs:cur.toList.take n++[hdrL l1]++cur.toList.drop (n+1)=cur.toList.set n (hdrL l1):=by
    rw [y3p,y4 hncur]; simp
   rw [hcs]
   simpa using c2
  ·rcases elem y hy with rfl | ⟨hy,hk⟩
   ·exact z21 mv1 p1
   ·exact z21 hk (q2 y hy)
 ·rw [bl'] 
  have hnd2:=hnd
  rw [bl] at hnd2
  rcases hb with hb | hb
  ·rw [hb]; exact hnd2
  ·rw [hb]
   obtain ⟨n1,n2⟩:=y1x.1 hnd2
   obtain ⟨n3,n4,n5⟩:=y1g.1 n2
   obtain ⟨n6,n7,n8⟩:=y1g.1 n4
   have hfr:∀ k∈(l.2.2.take n).flatMap (z7 (.sl e2 u))++(l.2.2.drop (n+1)).flatMap (z7 (.sl e2 u)),k≠w.heap.size:=fun k hk=>Nat.ne_of_lt (hne k hk).2.2
   refine y1x.2 ⟨fun hm=>?_,y1g.2 ⟨n3,y1g.2 ⟨by simp,n7,fun x hx z hz he=>?_⟩,fun x hx z hz he=>?_⟩⟩
   ·rcases yd.1 hm with hm | hm
    ·exact n1 (yd.2 (.inl hm))
    ·rcases yd.1 hm with hm | hm
     ·have:g=w.heap.size:=by simpa using hm
      exact y23 _ (this▸hall g (by rw [bl]; simp))
     ·exact n1 (yd.2 (.inr (yd.2 (.inr hm))))
   ·have hx:x=w.heap.size:=by simpa using hx
    exact hfr z (yd.2 (.inr hz)) (he.symm.trans hx)
   ·rcases yd.1 hz with hz | hz
    ·have hz:z=w.heap.size:=by simpa using hz
     exact hfr x (yd.2 (.inl hx)) (he.trans hz)
    ·exact n5 x hx z (yd.2 (.inr hz)) he
 ·intro k hk
  rw [bl'] at hk
  rw [bl]
  rcases yx.1 hk with rfl | hk
  ·exact .inl (by simp)
  ·rcases yd.1 hk with hk | hk
   ·exact .inl (y27 _ (yd.2 (.inl hk)))
   ·rcases yd.1 hk with hk | hk
    ·rcases hb with hb | hb
     ·rw [hb] at hk
      exact .inl (y27 _ (yd.2 (.inr (yd.2 (.inl hk)))))
     ·rw [hb] at hk
      exact .inr (by simpa using hk)
    ·exact .inl (y27 _ (yd.2 (.inr (yd.2 (.inr hk)))))

theorem zvd {d:Nat} {x:Operand} (h:zd9 d x=true):∀ d',some d=some d'→x≠.tmp d':=by
 rintro d' hd' rfl
 cases hd'
 simp [zd9] at h

theorem z19p {R0:Type} {res:R0} (R:Rep E w0 ok O σ a.tmps w M) (T:zh P E.ti=true) {d1 d2:Nat} (hd1:d1<a.tmps.size) (hd2:d2<a.tmps.size) (hne:d1≠d2) {x:Operand} {j n:Nat} (hx:opd σ x=some (.ref j [.ix n]))
  {t tx xt t':TypeId} {p q y:Operand} {k:St→Option R0} (h:zpl E σ d1 d2 t tx xt t' j n p q y k=some res) :
  ∀ (ty1:TypeId) (s1:String) (f1:Array Edge) (ty2:TypeId) (s2:String) (f2:Array Edge) (ty3:TypeId) (s3:String) (f3:Array Edge) {K:Act→World→Prop} {Q:Exit→Act→World→Prop},
   (∀ σ' w' M' (a':Act),k σ'=some res→Rep E w0 ok O σ' a'.tmps w' M'→a'.tmps.size=a.tmps.size→a'.defers=a.defers→K a' w') →
   Oper.wp P ⟨some d1,.call ⟨.builtin .append,#[x,y],#[t,tx]⟩,ty1,s1,f1,none⟩ a w (fun a1 w1=>Oper.wp P ⟨some d2,.indexAddr xt p q,ty2,s2,f2,none⟩ a1 w1 (fun a2 w2=>Oper.wp P ⟨none,.store t' (.tmp d2) (.tmp d1),ty3,s3,f3,none⟩ a2 w2 K Q) Q) Q:=by
 intro ty1 s1 f1 ty2 s2 f2 ty3 s3 f3 K Q hK
 unfold zpl at h
 split at h
 ·rename_i e e' u b ht
  split at h
  ·rename_i i z hi hz
   cases hb:(u.flat&&(Nat.beq (E.tyOf t').sz 1&&Nat.beq (E.elemSz xt) 1)) <;> rw [hb] at h
   ·cases h
   simp only [yh] at hb
   obtain ⟨hf,z1,z2⟩:=hb
   have z1:=yq z1
   have z2:=yq z2
   simp only [yi] at h
   obtain ⟨ys,g1,h⟩:=z19n hf h
   obtain ⟨hu,hty⟩:=zgw T ht (fun v hv=>by subst hv; cases hf)
   have hue:u=E.tyOf e:=by injection hty
   have he:e'=e:=by injection hty
   subst he
   have info:∃ (ti:TypeInfo) (v:Value),P.info? e'=some ti∧ti.zero=some v∧ti.size=u.sz∧v.cells.size=u.sz∧0<u.sz∧0<ti.bytes∧ti.bytes=i.bytes:=by
    subst hue
    obtain ⟨ti,v,i1,i2,i3,i4⟩:=zb6 T hz
    obtain ⟨⟨ti',j1,j2,j3,j4,j5⟩,_⟩:=(z2k T hi (by
     intro hsh
     have:=zdm T hi
     unfold z9k at this
     rw [hsh] at this
     simp only [beq_iff_eq] at this
     have h9:E.tyOf e'=.un:=by rw [Env.tyOf,hi]; exact this
     have:=z6q _ hz
     rw [h9] at this
     exact this rfl)).1
    rw [i1] at j1
    cases j1
    exact ⟨ti,v,i1,i2,i4,by rw [← y24,i3,zh8 _ hz],y4u (z6q _ hz),j4,j3⟩
   obtain ⟨ti,v,i1,i2,i4,hvs,hpos,j4,j3⟩:=info
   split at h
   ·rename_i re e2 u2 xs hr
    obtain ⟨l,hl,hel,hh,hnd,hpl⟩:∃ l:L (.sl re (.sl e2 u2)),M.loc j=⟨.sl re (.sl e2 u2),l⟩∧erase (.sl re (.sl e2 u2)) l=xs∧holds (Rd w0 ok) w (.sl re (.sl e2 u2)) l∧(z7 (.sl re (.sl e2 u2)) l).Nodup∧plain w (.sl re (.sl e2 u2)) l:=by
     obtain ⟨l,a1,a2,a3,a4,a5⟩:=R.rows j _ hr
     exact ⟨l,a1,a2,a3,a4,a5 rfl⟩
    obtain ⟨xx0,hxx,h⟩:=yk.1 h
    unfold zq at h
    split at h
    ·rename_i hcast
     cases hcast
     simp only [] at h
     split at h
     ·rename_i hby
      split at h
      ·rename_i j' ik m hp hq
       cases hb2:(Nat.beq j j'&&(zd9 d1 p&&zd9 d1 q)) <;> rw [hb2] at h
       ·cases h
       simp only [yh] at hb2
       obtain ⟨c1,c2,c3⟩:=hb2
       have c1:=yq c1
       subst c1
       simp only [yi] at h
       split at h
       ·rename_i hm
        simp only [dif_pos] at h
        obtain ⟨hm0,hmn⟩:=hm
        -- the element
        obtain ⟨⟨cs,⟨e1,t1,l0,k1,rfl⟩,k3⟩,k4⟩:=z1b R rfl hx
        rw [hl] at k1
        have k1:(l.2.2[n]?).bind (fun z=>zy (.sl e' u) z [])=some ⟨.sl e1 t1,l0⟩:=k1
        obtain ⟨y0,k5,k6⟩:=yk.1 k1
        have k6:some (⟨.sl e' u,y0⟩:Loc)=some ⟨.sl e1 t1,l0⟩:=by rw [← k6]; exact (z2z _ _).symm
        cases k6
        have hxx0:xx0=erase (.sl e' u) y0:=by
         rw [← hel] at hxx
         have hxx:(l.2.2.map (erase (.sl e' u)))[n]?=some xx0:=hxx
         rw [yu,k5] at hxx
         cases hxx; rfl
        subst hxx0
        have hmem:=ym k5
        have hlt:=(yo.1 k5).1
        have hax:a.eval x=hdrL y0:=by
         rcases k3 with ⟨k7,_⟩ | ⟨_,k7⟩
         ·cases k7
         ·simp only [za,y12,y13] at k7; exact k7.symm
        obtain ⟨⟨cs,⟨e3,t3,l3,m1,rfl⟩,m3⟩,m4⟩:=z1b R rfl hp
        rw [hl,z2z] at m1
        cases m1
        have hap:a.eval p=hdrL l:=by
         rcases m3 with ⟨k7,_⟩ | ⟨_,k7⟩
         ·cases k7
         ·simp only [za,y12,y13] at k7; exact k7.symm
        have haq:=z9l R rfl hq
        obtain ⟨σ1,ls,g2,g3⟩:=zjm (P:=P) R rfl T g1
        cases g2
        have hnb:∀ zs:List (L u),zs.flatMap (z7 u)=[]:=fun zs=>y2s.2 fun z _=>z9t z hf
        have hby2:(y0.2.2.length+ls.length)*ti.bytes≤LIM:=by
         rw [j3]; simpa [erase] using hby
        obtain ⟨w1,l1,r1,r2,r3,r4,r5,r6⟩:=zv2 (P:=P) (ty:=ty1) hu i1 i2 i4 hvs hpos (hh.2 y0 hmem) (hpl.2 y0 hmem) g3.src g3.ho (fun g _=>by rw [hnb,hnb]; simp) hby2 j4
        obtain ⟨g,hg⟩:=zh1 hh hlt
        have hh1:=hh.1
        rw [hg] at hh1
        obtain ⟨cur,fz,d1',d2',d3',d4',d5',d6'⟩:=hh1
        have hsz:(Ty.sl e' u).sz=1:=rfl
        rw [hsz,y4n] at d4' d6'
        have hgl:g<w.heap.size:=(y1s.1 d1').1
        have hgne:¬ y0.1=some g:=fun he=>by
         have hnd2:=hnd
         simp only [z7,hg,y2f,y3c,y3m,y2p,y1x] at hnd2
         exact hnd2.1 (y1e.2 ⟨y0,hmem,by simp [z7,he]⟩)
        have hw1g:w1.heap[g]?=some (.cells cur re fz):=(r6.block g hgl hgne).trans d1'
        obtain ⟨w2,s1',s2',s3',s4'⟩:=zhd (P:=P) T (t:=t') (v:=hdrL l1) (cs:=[hdrL l1]) (g:=g) (o:=n) (by rw [z1]; simp) (by simp [Value.cells]) (by rw [z1]; rfl) (by simp [Value.oneCell']) hw1g (by simp only [yy]; omega) (by simp only [yy]; rcases d6' with h | h; exact .inl h; exact .inr (by omega))
        -- the state behind it
        obtain ⟨q1,q2,q3,q4⟩:=z19o (w2:=w2) hf hh hpl hnd hg k5 r3 r4 r5 r6 d1' (by simpa using s2') s3'
        obtain ⟨R',kS,kB⟩:=R.killIn j 0
        have hset:zn (.sl re (.sl e' u)) l [.ix n] (.sl e' u) l1=some (l.1,l.2.1,l.2.2.set n l1):=by
         show (l.2.2[n]?).bind (fun z=>(zn (.sl e' u) z [] (.sl e' u) l1).map _)=_
         rw [k5,y6,z3h]
         rfl
        have hfree:Free w0 ok O (σ.killIn j 0) M [w.heap.size]:=by
         refine ⟨by simp,fun k hk=>?_,fun i hi k hk=>?_,fun i hi hk=>?_⟩
         ·have hk:k=w.heap.size:=by simpa using hk
          subst hk
          exact ⟨fun h=>y23 _ (R.ok_lt h),.inr R.kept.size⟩
         ·have hk:k=w.heap.size:=by simpa using hk
          subst hk
          obtain ⟨r,hr⟩:=hi
          obtain ⟨l2,g1,_,g3,_⟩:=R'.rows i r hr
          rw [g1]
          exact fun hk=>y23 _ (z1l g3 _ hk)
         ·obtain ⟨b,hb⟩:=hi
          obtain ⟨cs,_,g2,_⟩:=R'.boxes i b hb
          have:=(y1s.1 g2).1
          have hk:M.blk i=w.heap.size:=by simpa using hk
          omega
        have hkept:Kept (fun k=>k∈z7 (.sl re (.sl e' u)) l) w w2:=by
         refine Kept.trans (O:=fun k=>k∈z7 (.sl re (.sl e' u)) l) (O':=fun k=>k=g) ⟨r6.os,r6.tape,r6.output,r6.size,fun k hk hn=>r6.block k hk fun he=>hn ?_⟩ s4' fun k _ hk=>?_
         ·exact yd.2 (.inr (y1e.2 ⟨y0,hmem,by simp [z7,he]⟩))
         ·subst hk; exact yd.2 (.inl (by rw [hg]; simp))
        have R2:=R'.upd (w':=w2) (r:=⟨re,.sl e' u,xs,false⟩) (l:=l) (l':=(l.1,l.2.1,l.2.2.set n l1)) (bs:=[w.heap.size]) hr hl hkept q1 q3 (fun _=>q2) (by simp [za]) (fun k hk=>(q4 k hk).imp id fun h=>by simp [h]) hfree
         (fun s v hv p hp=>z3r _ _ [.ix n] _ _ _ p hset (by have:=kS s v hv p hp; simp only [ixs]; omega)) (fun i b hb p hp=>z3r _ _ [.ix n] _ _ _ p hset (by have:=kB i b hb p hp; simp only [ixs]; omega))
        have her:erase (.sl re (.sl e' u)) (l.1,l.2.1,l.2.2.set n l1)=xs.set n (List.append (erase (.sl e' u) y0) (ls.map (erase u))):=by
         rw [← hel]
         show (l.2.2.set n l1).map (erase (.sl e' u))=(l.2.2.map (erase (.sl e' u))).set n _
         rw [y5c]
         congr 1
         show l1.2.2.map (erase u)=_
         rw [r2,y25]
         rfl
        simp only [] at R2
        rw [her] at R2
        -- the machine's three steps
        have hwp1:∀ {K:Act→World→Prop},K (a.put (some d1) (hdrL l1)) w1→Oper.wp P ⟨some d1,.call ⟨.builtin .append,#[x,y],#[t,tx]⟩,ty1,s1,f1,none⟩ a w K Q:=fun hK=>by
         unfold Oper.wp execOp
         simp only [resolve,invoke,builtin,Sem.run_bind,Sem.run_pure,Result.andThen_ok]
         have hm:(#[x,y].map a.eval)=#[a.eval x,a.eval y]:=by simp
         rw [hm,hax,r1]
         simp only [Result.andThen_ok,Oper.upon_value]
         exact hK
        refine hwp1 ?_
        have ep:(a.put (some d1) (hdrL l1)).eval p=hdrL l:=(Act.eval_put (zvd c2)).trans hap
        have eq:(a.put (some d1) (hdrL l1)).eval q=.int ik m:=(Act.eval_put (zvd c3)).trans haq
        have hwp2:∀ {K:Act→World→Prop},K ((a.put (some d1) (hdrL l1)).put (some d2) (.pointer (some ⟨g,n,none⟩))) w1→Oper.wp P ⟨some d2,.indexAddr xt p q,ty2,s2,f2,none⟩ (a.put (some d1) (hdrL l1)) w1 K Q:=fun hK=>by
         have hrun:=zh0 (P:=P) T (by rw [z2]; simp:E.elemSz xt≠0) (ad:=⟨g,0,none⟩) (c:=l.2.1) (k:=ik) hm0 ((y55 hm0).1 (hmn▸hlt)) w1
         rw [z2x,z2,y4n,hmn] at hrun
         unfold Oper.wp execOp
         simp only [ep,eq,Sem.run_bind]
         rw [show hdrL l=.slice (some ⟨g,0,none⟩) l.2.2.length l.2.1 by simp [hdrL,hg]]
         rw [show (Instr.indexAt xt (.slice (some ⟨g,0,none⟩) l.2.2.length l.2.1) (.int ik m)).run P w1=.ok (.pointer (some ⟨g,n,none⟩)) w1 by simpa using hrun]
         simp only [Result.andThen_ok,Sem.run_pure,Oper.upon_value]
         exact hK
        refine hwp2 ?_
        have e1:((a.put (some d1) (hdrL l1)).put (some d2) (.pointer (some ⟨g,n,none⟩))).eval (.tmp d2)=.pointer (some ⟨g,n,none⟩):=by
         simp [Act.eval,Act.put,hd2]
        have e2:((a.put (some d1) (hdrL l1)).put (some d2) (.pointer (some ⟨g,n,none⟩))).eval (.tmp d1)=hdrL l1:=by
         rw [Act.eval_put (fun d hd=>by cases hd; intro h; cases h; exact hne rfl)]
         simp [Act.eval,Act.put,hd1]
        have hwp3:∀ {K:Act→World→Prop},K ((a.put (some d1) (hdrL l1)).put (some d2) (.pointer (some ⟨g,n,none⟩))) w2→Oper.wp P ⟨none,.store t' (.tmp d2) (.tmp d1),ty3,s3,f3,none⟩ ((a.put (some d1) (hdrL l1)).put (some d2) (.pointer (some ⟨g,n,none⟩))) w1 K Q:=fun hK=>by
         unfold Oper.wp execOp
         simp only [e1,e2,Sem.run_bind,s1',Result.andThen_ok,Sem.run_pure]
         exact hK
        refine hwp3 (hK _ w2 (z1o M j ⟨.sl re (.sl e' u),(l.1,l.2.1,l.2.2.set n l1)⟩) _ h ?_ ?_ ?_)
        ·rw [z1u,z1u]
         exact (R2.putUn (d:=some d1) _ (fun x hx=>by cases hx; exact hd1)).putUn (d:=some d2) _ (fun x hx=>by cases hx; rw [z4b]; exact hd2)
        ·rw [z1u,z1u,z4b,z4b]
        ·rw [z4v,z4v]
       ·cases h
      ·cases h
     ·cases h
    ·cases h
   ·cases h
  ·cases h
 ·cases h
end

section
variable {P : Program} {E : Env} {w0 : World} {ok O : Nat → Prop} {σ σ' : St} {tm : Array Value} {w w' : World} {M : Map} {a : Act}

def z4y (σ:St) (o:Oper) (x:Out):St:=(σ.add x.2.1 x.2.2).put o.dst x.1
def zhg (E:Env) (all:List Oper) (p i:Nat) (σ:St) (o:Oper) (x:Out):Prop :=
 (z45 all o (σ.hide (z3c all p i)) (some true) (some false)=some true∧zw E (σ.hide (z3c all p i)) o=some x∧σ.fresh (z12 o) x.2.1 x.2.2=true) ∨
 (z45 all o (σ.hide (z3c all p i)) (some true) (some false)=some false∧x=(.tup .nl,[],[]))
inductive Trace (E:Env) (all:List Oper):List Nat→Nat→List Oper→St→List Out→St→Prop where
 | nil (i:Nat) (l:List Oper) (σ:St):Trace E all [] i l σ [] σ
 | cons {p:Nat} {ps:List Nat} {i:Nat} {o:Oper} {l:List Oper} {σ σ':St} {x:Out} {xs:List Out}:zhg E all p i σ o x→Trace E all ps (i+1) l (z4y σ o x) xs σ'→Trace E all (p::ps) i (o::l) σ (x::xs) σ'

theorem z19q {R0:Type} {res:R0} {all:List Oper} {o:Oper} {yes no:Option R0} (h:z45 all o σ yes no=some res) :
  (z45 all o σ (some true) (some false)=some true∧yes=some res)∨(z45 all o σ (some true) (some false)=some false∧no=some res):=by
 cases hg:o.guard with
 | none=>simp only [z45,hg] at h ⊢; exact .inl ⟨trivial,h⟩
 | some gw =>
  obtain ⟨g,want⟩:=gw
  simp only [z45,hg] at h ⊢
  cases hd:z9f all g with
  | none=>simp only [hd] at h; cases h
  | some d =>
   simp only [hd] at h ⊢
   split at h
   ·rename_i b hb
    by_cases e:b=want
    ·rw [y4 e] at h; exact .inl ⟨by rw [y4 e],h⟩
    ·rw [y5 e] at h; exact .inr ⟨by rw [y5 e],h⟩
   ·exact .inr ⟨rfl,h⟩
   ·cases h
theorem z19r {R0:Type} {res:R0} {all:List Oper} {i:Nat} {s:SV} {k:SV→Option R0} (h:zpk all i s k=some res):k s=some res:=by
 unfold zpk at h
 cases hg:ziy all i <;> rw [hg] at h
 ·exact h
 ·simp only [yi] at h
  split at h
  ·split at h
   ·rename_i b hb; subst hb; exact h
   ·rename_i b hb
    have:b=false:=by simpa using hb
    subst this; exact h
  ·cases h

theorem zqd {R0:Type} {res:R0} {all:List Oper} {k:St→Option R0}:∀ (ps:List Nat) (i:Nat) (l:List Oper) (σ:St),zdb E all ps i l σ k=some res →
  ∃ outs σ',Trace E all ps i l σ outs σ'∧outs.length=ps.length∧ps.length≤l.length∧zda E all (i+ps.length) (l.drop ps.length) (σ'.promAll E) k=some res
 | [],i,l,σ,h=>⟨[],σ,.nil i l σ,rfl,Nat.zero_le _,by simpa [zdb] using h⟩
 | p::ps,i,[],σ,h=>by cases h
 | p::ps,i,o::l,σ,h=>by
  simp only [zdb] at h
  rcases z19q h with ⟨hw,h⟩ | ⟨hw,h⟩
  ·rw [zpo] at h
   obtain ⟨out,h1,h2⟩:=yk.1 h
   cases hf:σ.fresh (z12 o) out.2.1 out.2.2 <;> rw [hf] at h2
   ·cases h2
   ·simp only [yi] at h2
    obtain ⟨outs,σ',g1,g2,g3,g4⟩:=zqd ps (i+1) l _ (z19r h2)
    exact ⟨out::outs,σ',.cons (.inl ⟨hw,h1,hf⟩) g1,by simp [g2],by simp; exact g3,by rw [y1k,y4r,show i+(ps.length+1)=i+1+ps.length by omega]; exact g4⟩
  ·obtain ⟨outs,σ',g1,g2,g3,g4⟩:=zqd ps (i+1) l _ h
   exact ⟨(.tup .nl,[],[])::outs,σ',.cons (.inr ⟨hw,rfl⟩) g1,by simp [g2],by simp; exact g3,by rw [y1k,y4r,show i+(ps.length+1)=i+1+ps.length by omega]; exact g4⟩

structure Chars (base:St) (l:List Oper) (outs:List Out) (j:Nat) (σ:St):Prop where
 sl:∀ s v,lk σ.sl s=some v→lk base.sl s=some v∨∃ t o x,t<j∧l[t]?=some o∧outs[t]?=some x∧o.dst=some s∧v=x.1
 rows:∀ i r,lk σ.rows i=some r→lk base.rows i=some r∨∃ t x,t<j∧outs[t]?=some x∧lk x.2.1 i=some r
 bx:∀ i b,lk σ.bx i=some b→lk base.bx i=some b∨∃ t x,t<j∧outs[t]?=some x∧lk x.2.2 i=some b
 rows':∀ i,(∃ r,lk base.rows i=some r)→∃ r,lk σ.rows i=some r
 bx':∀ i,(∃ r,lk base.bx i=some r)→∃ r,lk σ.bx i=some r
 rowsO:∀ t x i,t<j→outs[t]?=some x→(∃ r,lk x.2.1 i=some r)→∃ r,lk σ.rows i=some r
 bxO:∀ t x i,t<j→outs[t]?=some x→(∃ r,lk x.2.2 i=some r)→∃ r,lk σ.bx i=some r

theorem z19s {o:Oper} {x:Out} (s:Nat) (v:SV) (h:lk (z4y σ o x).sl s=some v):(o.dst=some s∧v=x.1)∨lk σ.sl s=some v:=by
 unfold z4y at h
 cases hd:o.dst with
 | none=>rw [hd] at h; exact .inr h
 | some d =>
  rw [hd] at h
  simp only [St.put,zu] at h
  split at h
  ·rename_i e; cases h; exact .inl ⟨by rw [e],rfl⟩
  ·exact .inr h
theorem zjp {o:Oper} {x:Out}:(z4y σ o x).rows=x.2.1++σ.rows:=z6o _ _
theorem zjq {o:Oper} {x:Out}:(z4y σ o x).bx=x.2.2++σ.bx:=z5p _ _

theorem z19t {all:List Oper}:∀ {ps:List Nat} {i:Nat} {l:List Oper} {σ:St} {outs:List Out} {σ':St},Trace E all ps i l σ outs σ' →
  (∀ j,j<outs.length→∃ σj o x p,l[j]?=some o∧outs[j]?=some x∧ps[j]?=some p∧zhg E all p (i+j) σj o x∧Chars σ l outs j σj)∧Chars σ l outs outs.length σ':=by
 intro ps i l σ outs σ' h
 induction h with
 | nil i l σ=>exact ⟨fun j hj=>absurd hj (y3g _),⟨fun s v h=>.inl h,fun i r h=>.inl h,fun i b h=>.inl h,fun i h=>h,fun i h=>h,fun t x i ht=>absurd ht (y3g _),fun t x i ht=>absurd ht (y3g _)⟩⟩
 | @cons p ps i o l σ σ' x xs h1 h2 ih =>
  obtain ⟨ih1,ih2⟩:=ih
  have up:∀ {j σj},Chars (z4y σ o x) l xs j σj→Chars σ (o::l) (x::xs) (j+1) σj:=by
   intro j σj hc
   refine ⟨fun s v h=>?_,fun k r h=>?_,fun k b h=>?_,fun k hk=>hc.rows' k ?_,fun k hk=>hc.bx' k ?_,fun t x' k ht hx' hk=>?_,fun t x' k ht hx' hk=>?_⟩
   ·rcases hc.sl s v h with h | ⟨t,o',x',ht,h3,h4,h5,h6⟩
    ·rcases z19s s v h with ⟨h3,h4⟩ | h
     ·exact .inr ⟨0,o,x,y2y _,rfl,rfl,h3,h4⟩
     ·exact .inl h
    ·exact .inr ⟨t+1,o',x',y5g ht,h3,h4,h5,h6⟩
   ·rcases hc.rows k r h with h | ⟨t,x',ht,h4,h5⟩
    ·rw [zjp,z2e] at h
     cases hq:lk x.2.1 k with
     | some r'=>rw [hq] at h; cases h; exact .inr ⟨0,x,y2y _,rfl,hq⟩
     | none=>rw [hq] at h; exact .inl h
    ·exact .inr ⟨t+1,x',y5g ht,h4,h5⟩
   ·rcases hc.bx k b h with h | ⟨t,x',ht,h4,h5⟩
    ·rw [zjq,z2e] at h
     cases hq:lk x.2.2 k with
     | some r'=>rw [hq] at h; cases h; exact .inr ⟨0,x,y2y _,rfl,hq⟩
     | none=>rw [hq] at h; exact .inl h
    ·exact .inr ⟨t+1,x',y5g ht,h4,h5⟩
   ·obtain ⟨r,hr⟩:=hk
    rw [zjp,z2e,hr]
    cases lk x.2.1 k with
    | some r'=>exact ⟨r',rfl⟩
    | none=>exact ⟨r,rfl⟩
   ·obtain ⟨r,hr⟩:=hk
    rw [zjq,z2e,hr]
    cases lk x.2.2 k with
    | some r'=>exact ⟨r',rfl⟩
    | none=>exact ⟨r,rfl⟩
   ·cases t with
    | zero =>
     cases hx'
     obtain ⟨r,hr⟩:=hk
     exact hc.rows' k ⟨r,by rw [zjp,z2e,hr]; rfl⟩
    | succ t=>exact hc.rowsO t x' k (y5y ht) hx' hk
   ·cases t with
    | zero =>
     cases hx'
     obtain ⟨r,hr⟩:=hk
     exact hc.bx' k ⟨r,by rw [zjq,z2e,hr]; rfl⟩
    | succ t=>exact hc.bxO t x' k (y5y ht) hx' hk
  refine ⟨fun j hj=>?_,up ih2⟩
  cases j with
  | zero=>exact ⟨σ,o,x,p,rfl,rfl,rfl,h1,⟨fun s v h=>.inl h,fun i r h=>.inl h,fun i b h=>.inl h,fun i h=>h,fun i h=>h,fun t x i ht=>absurd ht (y3g _),fun t x i ht=>absurd ht (y3g _)⟩⟩
  | succ j =>
   obtain ⟨σj,o',x',p',g1,g2,g3,g4,g5⟩:=ih1 j (by simpa using hj)
   exact ⟨σj,o',x',p',g1,g2,g3,by rw [show i+(j+1)=i+1+j by omega]; exact g4,up g5⟩

structure Done (base:St) (all:List Oper) (outs:List Out) (D:Nat→Prop) (σ:St):Prop where
 sl:∀ s v,lk base.sl s=some v→lk σ.sl s=some v
 out:∀ j o x d,D j→all[j]?=some o→outs[j]?=some x→o.dst=some d→lk σ.sl d=some x.1
 rows:∀ i r,lk base.rows i=some r→lk σ.rows i=some r
 rowsO:∀ j x i r,D j→outs[j]?=some x→lk x.2.1 i=some r→lk σ.rows i=some r
 bx:∀ i r,lk base.bx i=some r→lk σ.bx i=some r
 bxO:∀ j x i r,D j→outs[j]?=some x→lk x.2.2 i=some r→lk σ.bx i=some r
 rowsB:∀ i r,lk σ.rows i=some r→lk base.rows i=some r∨∃ j x r',D j∧outs[j]?=some x∧lk x.2.1 i=some r'
 bxB:∀ i r,lk σ.bx i=some r→lk base.bx i=some r∨∃ j x r',D j∧outs[j]?=some x∧lk x.2.2 i=some r'

theorem zba {α:Type} (q:Nat→Bool):∀ (l:List (Nat×α)) (n:Nat),lk (l.filter fun x=>q x.1) n=if q n=true then lk l n else none
 | [],n=>by simp [lk]
 | (k,v)::l,n=>by
  rw [List.filter_cons]
  by_cases hk:q k=true
  ·rw [y4 hk,zu,zu,zba q l n]
   by_cases hkn:k=n
   ·subst hkn; simp [hk]
   ·simp [hkn]
  ·rw [y5 hk,zba q l n,zu]
   by_cases hkn:k=n
   ·subst hkn; simp [hk]
   ·simp [hkn]
theorem zjr {ds:List Nat} {n:Nat}:(!(ds.any (Nat.beq n)))=true↔n∉ds:=by
 simp only [y1h,y38]
 constructor
 ·intro h hm; have:=h n hm; simp at this
 ·intro h x hx hb; exact h (yq hb▸hx)

theorem z19u {all:List Oper} {p i j d:Nat} (hj:j<i) (hp:p.testBit j=false) (hd:z9f all j=some d):d∈z3c all p i:=by
 unfold z3c
 exact y5h.2 ⟨j,y1a.2 hj,by rw [hp]; exact hd⟩
end

theorem zqe:∀ (l:List Oper) (acc:List Nat),∃ r,z15 l acc=acc++r∧r.length=l.length
 | [],acc=>⟨[],by simp [z15],rfl⟩
 | o::l,acc=>by
  obtain ⟨r,h1,h2⟩:=zqe l (acc++[z9g acc o])
  exact ⟨z9g acc o::r,by simp only [z15]; rw [h1]; simp,by simp [h2]⟩
theorem zve:∀ (l:List Oper) (acc:List Nat) (j:Nat) (o:Oper),l[j]?=some o→∃ acc',(z15 l acc)[acc.length+j]?=some (z9g acc' o)∧acc'=(z15 l acc).take (acc.length+j)
 | [],acc,j,o,h=>by simp at h
 | o'::l,acc,j,o,h=>by
  obtain ⟨r,h1,h2⟩:=zqe l (acc++[z9g acc o'])
  cases j with
  | zero =>
   simp at h
   subst h
   refine ⟨acc,?_,?_⟩
   ·simp only [z15]; rw [h1]; simp
   ·simp only [z15]; rw [h1]; simp
  | succ j =>
   simp only [y1q] at h
   obtain ⟨acc',h3,h4⟩:=zve l (acc++[z9g acc o']) j o h
   refine ⟨acc',?_,?_⟩
   ·simp only [z15]
    rw [show acc.length+(j+1)=(acc++[z9g acc o']).length+j by simp; omega]
    exact h3
   ·rw [h4]
    simp only [z15]
    congr 1
    simp; omega
theorem z19v (before:List Nat) (o:Oper) (t:Nat) (h:(z9g before o).testBit t=true):∃ e∈o.after.toList,Region.binds .any e=true∧(t=e.on∨(before.getD e.on 0).testBit t=true):=by
 have key:∀ (l:List Edge) (s:Nat),(l.foldl (fun s e=>bif Region.binds .any e then Nat.lor s (Nat.lor (2 ^ e.on) (before.getD e.on 0)) else s) s).testBit t=true→s.testBit t=true∨∃ e∈l,Region.binds .any e=true∧(t=e.on∨(before.getD e.on 0).testBit t=true):=by
  intro l
  induction l with
  | nil=>intro s h; exact .inl h
  | cons e l ih =>
   intro s h
   rw [List.foldl_cons] at h
   rcases ih _ h with h | ⟨e',h1,h2⟩
   ·cases hb:Region.binds .any e <;> rw [hb] at h
    ·exact .inl h
    ·simp only [yi] at h
     have h':(s ||| (2 ^ e.on ||| before.getD e.on 0)).testBit t=true:=h
     rw [Nat.testBit_or,Nat.testBit_or,y2x,y2x] at h'
     rcases h' with h | h | h
     ·exact .inl h
     ·refine .inr ⟨e,by simp,hb,.inl ?_⟩
      rw [Nat.testBit_two_pow] at h
      exact (of_decide_eq_true h).symm
     ·exact .inr ⟨e,by simp,hb,.inr h⟩
   ·exact .inr ⟨e',by simp [h1],h2⟩
 rcases key _ 0 h with h | h
 ·simp at h
 ·exact h
theorem zdv:∀ {l:List Oper} {i:Nat},z56 i l=true→∀ (j:Nat) (o:Oper),l[j]?=some o→∀ e∈o.after.toList,Region.binds .any e=true→e.on<i+j
 | [],i,h,j,o,hj,e,he,hb=>by simp at hj
 | o'::l,i,h,j,o,hj,e,he,hb=>by
  simp only [z56,yh,y17] at h
  cases j with
  | zero =>
   simp at hj
   subst hj
   have:=h.1 e he
   rw [hb] at this
   simp only [y14,y3v] at this
   have:=y19 this
   omega
  | succ j =>
   simp only [y1q] at hj
   have:=zdv h.2 j o hj e he hb
   omega
theorem z19w {n p:Nat} (h:zaz n p=true) {j:Nat} (hj:j<n):p.testBit j=true:=by
 have e:=yq h
 have h1:(p % 2 ^ n).testBit j=true:=by rw [e,Nat.testBit_two_pow_sub_one]; simp [hj]
 rw [Nat.testBit_mod_two_pow] at h1
 simp only [yh] at h1
 exact h1.2
theorem zqf:∀ (ps:List Nat) (i j p:Nat),z47 ps i≤j→ps[j]?=some p→zaz (i+j) p=true
 | [],i,j,p,_,h=>by simp at h
 | q::ps,i,j,p,hj,h=>by
  simp only [z47] at hj
  cases hf:z47 ps (i+1) with
  | zero =>
   rw [hf] at hj
   simp only [] at hj
   cases j with
   | zero =>
    simp at h
    subst h
    cases ht:zaz i q <;> rw [ht] at hj
    ·simp at hj
   | succ j =>
    simp only [y1q] at h
    have:=zqf ps (i+1) j p (by omega) h
    rw [show i+(j+1)=i+1+j by omega]; exact this
  | succ n =>
   rw [hf] at hj
   simp only [] at hj
   cases j with
   | zero=>omega
   | succ j =>
    simp only [y1q] at h
    have:=zqf ps (i+1) j p (by omega) h
    rw [show i+(j+1)=i+1+j by omega]; exact this

def zjs (all:List Oper) (D:Nat→Prop):Prop:=∀ j o,D j→all[j]?=some o→∀ e∈o.after.toList,Region.binds .any e=true→D e.on
theorem zqg {all:List Oper} (hE:z56 0 all=true) {D:Nat→Prop} (hD:zjs all D):∀ (j:Nat) (o:Oper),all[j]?=some o→(∀ e∈o.after.toList,Region.binds .any e=true→D e.on)→∀ t,((z15 all []).getD j 0).testBit t=true→D t:=by
 intro j
 induction j using Nat.strongRecOn with
 | _ j ih =>
  intro o ho he t ht
  obtain ⟨acc',h1,h2⟩:=zve all [] j o ho
  rw [y3f,y18] at h1 h2
  rw [y16,h1] at ht
  obtain ⟨e,e1,e2,e3⟩:=z19v acc' o t ht
  rcases e3 with rfl | e3
  ·exact he e e1 e2
  ·have hlt:=zdv hE j o ho e e1 e2
   rw [y18] at hlt
   rw [h2,y16,y1n hlt,← y16] at e3
   have hol:e.on<all.length:=y5i hlt (yo.1 ho).1
   have hdon:=he e e1 e2
   exact ih e.on hlt all[e.on] (yj hol) (fun e' h3 h4=>hD e.on _ hdon (yj hol) e' h3 h4) t e3

section
variable {P : Program} {E : Env} {w0 : World} {ok O : Nat → Prop} {σ σ' : St} {tm : Array Value} {w w' : World} {M : Map} {a : Act}

theorem zvf {α:Type}:∀ {l:List (Nat×α)} {x:Nat×α},x∈l→∃ v,lk l x.1=some v
 | (k,v)::l,x,h=>by
  rw [zu]
  by_cases hk:k=x.1
  ·exact ⟨v,by rw [y4 hk]⟩
  ·rw [y5 hk]
   rcases yx.1 h with rfl | h
   ·exact absurd rfl hk
   ·exact zvf h
theorem z19x {d:Nat} {nr:List (Nat×Row)} {nb:List (Nat×Bx)} (h:σ.fresh d nr nb=true):(∀ i,(∃ r,lk nr i=some r)→i / 32=d)∧(∀ i,(∃ r,lk nb i=some r)→i=d):=by
 simp only [St.fresh,yh,y17] at h
 refine ⟨fun i ⟨r,hr⟩=>yq (h.1.1 _ (z19 hr)).1.1,fun i hi=>?_⟩
 obtain ⟨r,hr⟩:=hi
 have h2:=h.2
 split at h2
 ·cases hr
 ·rename_i x
  simp only [yh] at h2
  rw [show ([x]:List (Nat×Bx))=[(x.1,x.2)] from rfl] at hr
  rw [(z59 hr).1]
  exact yq h2.1.1
 ·cases h2
theorem z19y {d:Nat} {nr:List (Nat×Row)} {nb:List (Nat×Bx)} (h:σ.fresh d nr nb=true) (hr:∀ i,(∃ r,lk nr i=some r)→lk σ'.rows i=none) (hb:∀ i,(∃ r,lk nb i=some r)→lk σ'.bx i=none):σ'.fresh d nr nb=true:=by
 simp only [St.fresh,yh,y17] at h ⊢
 refine ⟨⟨fun x hx=>⟨(h.1.1 x hx).1,?_⟩,h.1.2⟩,?_⟩
 ·rw [hr x.1 (zvf hx)]
 ·have h2:=h.2
  split at h2
  ·rfl
  ·rename_i x
   simp only [yh] at h2 ⊢
   exact ⟨h2.1,by rw [hb x.1 ⟨x.2,z5q _ _ _⟩]⟩
  ·cases h2

structure FreeP (E:Env) (all:List Oper) (m:Nat) (base:St) (outs:List Out):Prop where
 len:outs.length=m
 le:m≤all.length
 edges:z56 0 all=true
 dst:∀ j o,j<m→all[j]?=some o→∃ d,o.dst=some d∧lk base.sl d=none
 dist:∀ i j o o' d,i<m→j<m→all[i]?=some o→all[j]?=some o'→o.dst=some d→o'.dst=some d→i=j
 at_:∀ j,j<m→∃ σj o x,all[j]?=some o∧outs[j]?=some x∧zhg E all ((z15 all []).getD j 0) j σj o x∧Chars base all outs j σj

theorem zhg.ids {all:List Oper} {p i:Nat} {o:Oper} {x:Out} (h:zhg E all p i σ o x):(∀ k,(∃ r,lk x.2.1 k=some r)→k / 32=z12 o)∧(∀ k,(∃ r,lk x.2.2 k=some r)→k=z12 o):=by
 rcases h with ⟨_,_,h⟩ | ⟨_,rfl⟩
 ·exact z19x h
 ·exact ⟨fun k ⟨r,hr⟩=>(nomatch hr),fun k ⟨r,hr⟩=>(nomatch hr)⟩
theorem FreeP.ids {all:List Oper} {m:Nat} {base:St} {outs:List Out} (F:FreeP E all m base outs) {t:Nat} {x:Out} (ht:t<m) (hx:outs[t]?=some x) :
  ∃ o d,all[t]?=some o∧o.dst=some d∧(∀ k,(∃ r,lk x.2.1 k=some r)→k / 32=d)∧(∀ k,(∃ r,lk x.2.2 k=some r)→k=d):=by
 obtain ⟨σj,o,x',h1,h2,h3,_⟩:=F.at_ t ht
 rw [hx] at h2
 cases h2
 obtain ⟨d,hd,_⟩:=F.dst t o ht h1
 have:=h3.ids
 have hs:z12 o=d:=by simp [z12,hd]
 rw [hs] at this
 exact ⟨o,d,h1,hd,this.1,this.2⟩

theorem zvg {all:List Oper} {m:Nat} {base:St} {outs:List Out} (F:FreeP E all m base outs) {D:Nat→Prop} {σD σj:St} (hD:Done base all outs D σD) {j p:Nat} (hj:j<m) (hp:∀ t,p.testBit t=true→D t) (hc:Chars base all outs j σj):Le (σj.hide (z3c all p j)) σD:=by
 have tin:∀ t o d,t<j→all[t]?=some o→o.dst=some d→d∉z3c all p j→D t:=by
  intro t o d ht ho hd hn
  cases hb:p.testBit t with
  | true=>exact hp t hb
  | false=>exact absurd (z19u ht hb (by simp [z9f,ho,hd])) hn
 constructor
 ·intro s v h
  have h:lk (σj.sl.filter (fun x=>!((z3c all p j).any (Nat.beq x.1)))) s=some v:=h
  rw [zba (fun n=>!((z3c all p j).any (Nat.beq n)))] at h
  split at h
  ·rename_i hs
   have hs:=zjr.1 hs
   rcases hc.sl s v h with h | ⟨t,o,x,ht,ho,hx,hd,rfl⟩
   ·exact hD.sl s v h
   ·exact hD.out t o x s (tin t o s ht ho hd hs) ho hx hd
  ·cases h
 ·intro s v h
  have h:lk (σj.rows.filter (fun x=>!((z3c all p j).any (Nat.beq (x.1 / 32))))) s=some v:=h
  rw [zba (fun n=>!((z3c all p j).any (Nat.beq (n / 32))))] at h
  split at h
  ·rename_i hs
   have hs:=zjr.1 hs
   rcases hc.rows s v h with h | ⟨t,x,ht,hx,h⟩
   ·exact hD.rows s v h
   ·obtain ⟨o,d,ho,hd,h1,_⟩:=F.ids (y5i ht hj) hx
    exact hD.rowsO t x s v (tin t o d ht ho hd (by rw [← h1 s ⟨v,h⟩]; exact hs)) hx h
  ·cases h
 ·intro s v h
  have h:lk (σj.bx.filter (fun x=>!((z3c all p j).any (Nat.beq x.1)))) s=some v:=h
  rw [zba (fun n=>!((z3c all p j).any (Nat.beq n)))] at h
  split at h
  ·rename_i hs
   have hs:=zjr.1 hs
   rcases hc.bx s v h with h | ⟨t,x,ht,hx,h⟩
   ·exact hD.bx s v h
   ·obtain ⟨o,d,ho,hd,_,h1⟩:=F.ids (y5i ht hj) hx
    exact hD.bxO t x s v (tin t o d ht ho hd (by rw [← h1 s ⟨v,h⟩]; exact hs)) hx h
  ·cases h

theorem Done.step {all:List Oper} {m:Nat} {base:St} {outs:List Out} (F:FreeP E all m base outs) {D:Nat→Prop} {σD:St} (hD:Done base all outs D σD) (hDm:∀ t,D t→t<m) {j:Nat} (hj:j<m) {o:Oper} {x:Out} (ho:all[j]?=some o) (hx:outs[j]?=some x)
  (hfr:(∀ k,(∃ r,lk x.2.1 k=some r)→lk σD.rows k=none)∧(∀ k,(∃ r,lk x.2.2 k=some r)→lk σD.bx k=none)):Done base all outs (fun t=>t=j∨D t) (z4y σD o x):=by
 obtain ⟨d,hd,hb⟩:=F.dst j o hj ho
 have hsl:∀ s,lk (z4y σD o x).sl s=if d=s then some x.1 else lk σD.sl s:=by
  intro s
  unfold z4y
  rw [hd]
  simp only [St.put,zu]
  rfl
 have hrow:∀ k,lk (z4y σD o x).rows k=(lk x.2.1 k).or (lk σD.rows k):=fun k=>by rw [zjp,z2e]
 have hbx:∀ k,lk (z4y σD o x).bx k=(lk x.2.2 k).or (lk σD.bx k):=fun k=>by rw [zjq,z2e]
 have orR:∀ k r,lk σD.rows k=some r→lk (z4y σD o x).rows k=some r:=by
  intro k r h
  rw [hrow]
  cases hq:lk x.2.1 k with
  | some r'=>have:=hfr.1 k ⟨r',hq⟩; rw [h] at this; cases this
  | none=>exact h
 have orB:∀ k r,lk σD.bx k=some r→lk (z4y σD o x).bx k=some r:=by
  intro k r h
  rw [hbx]
  cases hq:lk x.2.2 k with
  | some r'=>have:=hfr.2 k ⟨r',hq⟩; rw [h] at this; cases this
  | none=>exact h
 constructor
 ·intro s v h
  rw [hsl]
  split
  ·rename_i e; subst e; rw [hb] at h; cases h
  ·exact hD.sl s v h
 ·intro t o' x' d' ht ho' hx' hd'
  rw [hsl]
  by_cases htj:t=j
  ·subst htj
   rw [ho] at ho'
   rw [hx] at hx'
   cases ho'; cases hx'
   rw [hd] at hd'
   cases hd'
   rw [y4 rfl]
  ·rcases ht with h | ht
   ·exact absurd h htj
   ·rw [y5 (fun e=>htj (F.dist t j o' o d' (hDm t ht) hj ho' ho hd' (by rw [hd,e])))]
    exact hD.out t o' x' d' ht ho' hx' hd'
 ·exact fun k r h=>orR k r (hD.rows k r h)
 ·intro t x' k r ht hx' h
  by_cases htj:t=j
  ·subst htj
   rw [hx] at hx'
   cases hx'
   rw [hrow,h]; rfl
  ·rcases ht with h2 | ht
   ·exact absurd h2 htj
   ·exact orR k r (hD.rowsO t x' k r ht hx' h)
 ·exact fun k r h=>orB k r (hD.bx k r h)
 ·intro t x' k r ht hx' h
  by_cases htj:t=j
  ·subst htj
   rw [hx] at hx'
   cases hx'
   rw [hbx,h]; rfl
  ·rcases ht with h2 | ht
   ·exact absurd h2 htj
   ·exact orB k r (hD.bxO t x' k r ht hx' h)
 ·intro k r h
  rw [hrow] at h
  cases hq:lk x.2.1 k with
  | some r'=>exact .inr ⟨j,x,r',.inl rfl,hx,hq⟩
  | none =>
   rw [hq] at h
   rcases hD.rowsB k r h with h | ⟨t,x',r',ht,h1,h2⟩
   ·exact .inl h
   ·exact .inr ⟨t,x',r',.inr ht,h1,h2⟩
 ·intro k r h
  rw [hbx] at h
  cases hq:lk x.2.2 k with
  | some r'=>exact .inr ⟨j,x,r',.inl rfl,hx,hq⟩
  | none =>
   rw [hq] at h
   rcases hD.bxB k r h with h | ⟨t,x',r',ht,h1,h2⟩
   ·exact .inl h
   ·exact .inr ⟨t,x',r',.inr ht,h1,h2⟩

theorem z19z [Glob P] {all:List Oper} {m n:Nat} {base:St} {outs:List Out} (T:zh P E.ti=true) (EQ:z2f P E) (S:SpecOK P E w0 O) (F:FreeP E all m base outs) {D:Nat→Prop} {σD:St} (hD:Done base all outs D σD) (hDm:∀ t,D t→t<m) {j:Nat} (hj:j<m) (hnj:¬ D j)
  (hp:∀ t,((z15 all []).getD j 0).testBit t=true→D t) (hB:∀ o∈all,∀ d,o.dst=some d→d<n) {a:Act} {w:World} {M:Map} (R:Rep E w0 ok O σD a.tmps w M) (hn:a.tmps.size=n) (hd:a.defers=[]) {K:Act→World→Prop} {Q:Exit→Act→World→Prop}
  (hK:∀ σ' a' w' M',Done base all outs (fun t=>t=j∨D t) σ'→Rep E w0 ok O σ' a'.tmps w' M'→a'.tmps.size=n→a'.defers=[]→K a' w'):wpOp P all.toArray Q j K a w:=by
 obtain ⟨σj,o,x,ho,hx,htr,hc⟩:=F.at_ j hj
 have hle:=zvg F hD hj hp hc
 have hin:inB o.dst a.tmps:=fun d hd=>by rw [hn]; exact hB o (ym ho) d hd
 have hoa:all.toArray[j]?=some o:=by simpa using ho
 have hfr:(∀ k,(∃ r,lk x.2.1 k=some r)→lk σD.rows k=none)∧(∀ k,(∃ r,lk x.2.2 k=some r)→lk σD.bx k=none):=by
  obtain ⟨o',d,ho',hd',i1,i2⟩:=F.ids hj hx
  rcases htr with ⟨_,_,hf⟩ | ⟨_,rfl⟩
  ·refine ⟨fun k hk=>?_,fun k hk=>?_⟩
   ·cases hq:lk σD.rows k with
    | none=>rfl
    | some r =>
     exfalso
     rcases hD.rowsB k r hq with h | ⟨t,x',r',ht,h1,h2⟩
     ·obtain ⟨r2,hr2⟩:=hc.rows' k ⟨r,h⟩
      rw [zj6 hf hk] at hr2; cases hr2
     ·obtain ⟨o2,d2,ho2,hd2,i3,_⟩:=F.ids (hDm t ht) h1
      have e:d2=d:=(i3 k ⟨r',h2⟩).symm.trans (i1 k hk)
      subst e
      have:=F.dist t j o2 o' d2 (hDm t ht) hj ho2 ho' hd2 hd'
      exact hnj (this▸ht)
   ·cases hq:lk σD.bx k with
    | none=>rfl
    | some r =>
     exfalso
     rcases hD.bxB k r hq with h | ⟨t,x',r',ht,h1,h2⟩
     ·obtain ⟨r2,hr2⟩:=hc.bx' k ⟨r,h⟩
      rw [zdl hf hk] at hr2; cases hr2
     ·obtain ⟨o2,d2,ho2,hd2,_,i3⟩:=F.ids (hDm t ht) h1
      have e:d2=d:=(i3 k ⟨r',h2⟩).symm.trans (i2 k hk)
      subst e
      have:=F.dist t j o2 o' d2 (hDm t ht) hj ho2 ho' hd2 hd'
      exact hnj (this▸ht)
  ·exact ⟨fun k ⟨r,hr⟩=>(nomatch hr),fun k ⟨r,hr⟩=>(nomatch hr)⟩
 have hnext:=Done.step F hD hDm hj ho hx hfr
 have wm:∀ {b:Bool},z45 all o (σj.hide (z3c all ((z15 all []).getD j 0) j)) (some true) (some false)=some b→z45 all o σD (some true) (some false)=some b:=by
  intro b h
  unfold z45 at h ⊢
  cases hg:o.guard with
  | none=>rw [hg] at h; exact h
  | some gw =>
   rw [hg] at h
   simp only [] at h ⊢
   cases hdd:z9f all gw.1 with
   | none=>rw [hdd] at h; cases h
   | some dd =>
    rw [hdd] at h
    simp only [] at h ⊢
    cases hq:lk (σj.hide (z3c all ((z15 all []).getD j 0) j)).sl dd with
    | none=>rw [hq] at h; cases h
    | some v=>rw [hle.sl dd v hq]; rw [hq] at h; exact h
 unfold wpOp
 rw [hoa]
 simp only []
 rcases htr with ⟨hw,hpu,hf⟩ | ⟨hw,rfl⟩
 ·rcases zjo R (wm hw) with ⟨hw1,_⟩ | ⟨_,h2⟩
  ·rw [y4 hw1]
   have hpu':zw E σD o=some x:=ztl hle hpu
   have hf':σD.fresh (z12 o) x.2.1 x.2.2=true:=z19y hf hfr.1 hfr.2
   refine .inl (zus R rfl T EQ S hpu' hf' K Q fun v w' M' X=>?_)
   refine hK _ _ w' M' hnext ?_ (by rw [z1u,z4b,hn]) (by rw [z4v]; exact hd)
   rw [z1u]
   exact R.add hf' X hin
  ·cases h2
 ·rcases zjo R (wm hw) with ⟨_,h2⟩ | ⟨hw1,_⟩
  ·cases h2
  ·rw [y5 (by rw [hw1]; simp)]
   refine hK _ _ w M hnext ?_ (by rw [z1u,z4b,hn]) (by rw [z4v]; exact hd)
   rw [z1u]
   exact R.putSkip hin
end

section
variable {P : Program} {E : Env} {w0 : World} {ok O : Nat → Prop} {σ σ' : St} {tm : Array Value} {w w' : World} {M M' : Map} {a : Act}

theorem zvh {t:Ty} (hf:t.flat=true):∀ {s:SV} {cs:List Value} {xs:List t.T},z1m w0 ok M s cs→ziz t s=some xs→∃ ls:List (L t),ls.map (erase t)=xs∧ls.flatMap (za t)=cs∧ls.length=s.count
 | .nl,cs,xs,h,hx=>by
  simp only [z1m] at h
  subst h
  cases hx
  exact ⟨[],rfl,rfl,rfl⟩
 | .cns a b,cs,xs,h,hx=>by
  obtain ⟨c1,c2,rfl,h1,h2⟩:=h
  simp only [ziz] at hx
  split at hx
  ·rename_i u x ys hy
   split at hx
   ·rename_i e
    subst e
    cases hx
    obtain ⟨ls,g1,g2,g3⟩:=zvh hf h2 hy
    obtain ⟨l,k1,k2,_⟩:=zb7 hf h1
    exact ⟨l::ls,by simp [g1,k1],by simp [g2,k2],by simp [g3,SV.count]⟩
   ·cases hx
  ·cases hx
 | .val _ _,_,_,_,hx=>by cases hx
 | .ref _ _,_,_,_,hx=>by cases hx
 | .vw _ _ _,_,_,_,hx=>by cases hx
 | .ls _,_,_,_,hx=>by cases hx
 | .st _,_,_,_,hx=>by cases hx
 | .pr _ _,_,_,_,hx=>by cases hx
 | .bp _ _ _,_,_,_,hx=>by cases hx
 | .ep _ _ _ _ _,_,_,_,hx=>by cases hx
 | .lp _ _,_,_,_,hx=>by cases hx
 | .clo _ _,_,_,_,hx=>by cases hx
 | .tup _,_,_,_,hx=>by cases hx
 | .no,_,_,_,hx=>by cases hx
 | .un,_,_,_,hx=>by cases hx

theorem zjt (j i:Nat) (s:SV):(s.lsRef j i).isSt=s.isSt∧(s.lsRef j i).count=s.count∧(s.lsRef j i).isCh=s.isCh∧(∀ k∈(s.lsRef j i).roots,k∈s.roots∨(k=i∧j∈s.boxes))∧∀ k∈(s.lsRef j i).boxes,k∈s.boxes∧k≠j:=by
 induction s with
 | st s ih=>exact ⟨rfl,rfl,rfl,ih.2.2.2.1,ih.2.2.2.2⟩
 | tup s ih=>exact ⟨rfl,rfl,rfl,ih.2.2.2.1,ih.2.2.2.2⟩
 | clo g s ih=>exact ⟨rfl,rfl,rfl,ih.2.2.2.1,ih.2.2.2.2⟩
 | pr a b iha ihb =>
  refine ⟨rfl,rfl,rfl,fun k hk=>?_,fun k hk=>?_⟩
  ·simp only [SV.lsRef,SV.roots,SV.boxes,yd] at hk ⊢
   rcases hk with hk | hk
   ·exact (iha.2.2.2.1 k hk).elim (fun h=>.inl (.inl h)) fun h=>.inr ⟨h.1,.inl h.2⟩
   ·exact (ihb.2.2.2.1 k hk).elim (fun h=>.inl (.inr h)) fun h=>.inr ⟨h.1,.inr h.2⟩
  ·simp only [SV.lsRef,SV.boxes,yd] at hk ⊢
   rcases hk with hk | hk
   ·exact ⟨.inl (iha.2.2.2.2 k hk).1,(iha.2.2.2.2 k hk).2⟩
   ·exact ⟨.inr (ihb.2.2.2.2 k hk).1,(ihb.2.2.2.2 k hk).2⟩
 | cns a b iha ihb =>
  refine ⟨rfl,by simp [SV.lsRef,SV.count,ihb.2.1],rfl,fun k hk=>?_,fun k hk=>?_⟩
  ·simp only [SV.lsRef,SV.roots,SV.boxes,yd] at hk ⊢
   rcases hk with hk | hk
   ·exact (iha.2.2.2.1 k hk).elim (fun h=>.inl (.inl h)) fun h=>.inr ⟨h.1,.inl h.2⟩
   ·exact (ihb.2.2.2.1 k hk).elim (fun h=>.inl (.inr h)) fun h=>.inr ⟨h.1,.inr h.2⟩
  ·simp only [SV.lsRef,SV.boxes,yd] at hk ⊢
   rcases hk with hk | hk
   ·exact ⟨.inl (iha.2.2.2.2 k hk).1,(iha.2.2.2.2 k hk).2⟩
   ·exact ⟨.inr (ihb.2.2.2.2 k hk).1,(ihb.2.2.2.2 k hk).2⟩
 | ls k =>
  simp only [SV.lsRef]
  cases h:Nat.beq j k
  ·refine ⟨rfl,rfl,rfl,by simp [SV.roots],fun q hq=>?_⟩
   simp only [yn,SV.boxes,y2l] at hq ⊢
   subst hq
   exact ⟨rfl,fun e=>z4c h e.symm⟩
  ·have:=yq h
   subst this
   exact ⟨rfl,rfl,rfl,by simp [SV.roots,SV.boxes],by simp [SV.boxes]⟩
 | lp k n =>
  simp only [SV.lsRef]
  cases h:Nat.beq j k
  ·refine ⟨rfl,rfl,rfl,by simp [SV.roots],fun q hq=>?_⟩
   simp only [yn,SV.boxes,y2l] at hq ⊢
   subst hq
   exact ⟨rfl,fun e=>z4c h e.symm⟩
  ·exact ⟨rfl,rfl,rfl,by simp [SV.roots],by simp [SV.boxes]⟩
 | bp k p o =>
  simp only [SV.lsRef]
  cases h:Nat.beq j k
  ·refine ⟨rfl,rfl,rfl,by simp [SV.roots],fun q hq=>?_⟩
   simp only [yn,SV.boxes,y2l] at hq ⊢
   subst hq
   exact ⟨rfl,fun e=>z4c h e.symm⟩
  ·exact ⟨rfl,rfl,rfl,by simp [SV.roots],by simp [SV.boxes]⟩
 | _=>exact ⟨rfl,rfl,rfl,fun k hk=>.inl hk,fun k hk=>absurd hk (by simp [SV.lsRef,SV.boxes])⟩
structure Turned (M M':Map) (j i:Nat):Prop where
 loc:∀ k,k≠i→M'.loc k=M.loc k
 blk:∀ k,M'.blk k=M.blk k∧M'.bn k=M.bn k∧M'.bw k=M.bw k
 row:∃ e t,∃ l:L (.sl e t),M'.loc i=⟨.sl e t,l⟩∧l.1=some (M.blk j)∧l.2.1=M.bn j∧l.2.2.length=M.bn j
theorem z3u {j i:Nat} (H:Turned M M' j i):∀ {s:SV} {cs:List Value},(∀ k∈s.roots,k≠i)→zc w0 ok M s cs→zc w0 ok M' (s.lsRef j i) cs
 | .val t x,cs,_,h=>h
 | .ref k p,cs,hr,h=>by
  obtain ⟨e,t,l,h1,h2⟩:=h
  exact ⟨e,t,l,by rw [H.loc k (hr k (by simp [SV.roots]))]; exact h1,h2⟩
 | .vw k lo n,cs,hr,h=>by
  obtain ⟨e,t,l,h1,h2⟩:=h
  exact ⟨e,t,l,by rw [H.loc k (hr k (by simp [SV.roots]))]; exact h1,h2⟩
 | .ls k,cs,hr,h=>by
  simp only [zc] at h
  subst h
  simp only [SV.lsRef]
  cases hb:Nat.beq j k
  ·show [_]=[_]
   rw [(H.blk k).1,(H.blk k).2.1]
  ·have:=yq hb
   subst this
   obtain ⟨e,t,l,h1,h2,h3,h4⟩:=H.row
   refine ⟨e,t,l,(congrArg (fun z:Loc=>zy z.1 z.2 []) h1).trans rfl,?_⟩
   simp only [za,h2,h3,h4,y20]
 | .st s,cs,hr,h=>z3u H (s:=s) hr h
 | .pr a b,cs,hr,h=>by
  obtain ⟨c1,c2,rfl,h1,h2⟩:=h
  exact ⟨c1,c2,rfl,z3u H (fun k hk=>hr k (by simp [SV.roots,hk])) h1,z3u H (fun k hk=>hr k (by simp [SV.roots,hk])) h2⟩
 | .bp k p o,cs,hr,h=>by
  simp only [zc] at h
  subst h
  simp only [SV.lsRef]
  cases hb:Nat.beq j k
  ·show [_]=[_]
   rw [(H.blk k).1]
  ·exact ⟨_,rfl,rfl⟩
 | .ep k p n f o,cs,hr,h=>by
  obtain ⟨e,t,l,g,h1,h2⟩:=h
  exact ⟨e,t,l,g,by rw [H.loc k (hr k (by simp [SV.roots]))]; exact h1,h2⟩
 | .lp k n,cs,hr,h=>by
  obtain ⟨h1,rfl⟩:=h
  simp only [SV.lsRef]
  cases hb:Nat.beq j k
  ·refine ⟨by rw [(H.blk k).2.1]; exact h1,?_⟩
   rw [(H.blk k).1,(H.blk k).2.2]
  ·exact ⟨_,rfl,rfl⟩
 | .clo g c,cs,hr,h=>by
  obtain ⟨caps,rfl,h1⟩:=h
  exact ⟨caps,rfl,z3u H (s:=c) hr h1⟩
 | .no,cs,hr,h=>h
 | .un,cs,hr,h=>h
 | .tup _,_,_,h=>h.elim
 | .cns _ _,_,_,h=>h.elim
 | .nl,_,_,h=>h.elim
theorem z1a0 {j i:Nat} (H:Turned M M' j i) {s:SV}:∀ {cs:List Value},(∀ k∈s.roots,k≠i)→z1m w0 ok M s cs→z1m w0 ok M' (s.lsRef j i) cs:=by
 induction s with
 | cns a b iha ihb =>
  intro cs hr h
  obtain ⟨c1,c2,rfl,h1,h2⟩:=h
  exact ⟨c1,c2,rfl,z3u H (fun k hk=>hr k (by simp [SV.roots,hk])) h1,ihb (fun k hk=>hr k (by simp [SV.roots,hk])) h2⟩
 | nl=>intro cs hr h; exact h
 | tup s _=>intro cs hr h; exact h.elim
 | ls k=>intro cs hr h; exact z13 (z3u H (s:=.ls k) hr h)
 | val t x=>intro cs hr h; exact z13 (z3u H (s:=.val t x) hr h)
 | ref k p=>intro cs hr h; exact z13 (z3u H (s:=.ref k p) hr h)
 | vw k a b=>intro cs hr h; exact z13 (z3u H (s:=.vw k a b) hr h)
 | st s _=>intro cs hr h; exact z13 (z3u H (s:=.st s) hr h)
 | pr a b _ _=>intro cs hr h; exact z13 (z3u H (s:=.pr a b) hr h)
 | bp k p o=>intro cs hr h; exact z13 (z3u H (s:=.bp k p o) hr h)
 | ep k p n f o=>intro cs hr h; exact z13 (z3u H (s:=.ep k p n f o) hr h)
 | lp k n=>intro cs hr h; exact z13 (z3u H (s:=.lp k n) hr h)
 | clo g s _=>intro cs hr h; exact z13 (z3u H (s:=.clo g s) hr h)
 | no=>intro cs hr h; exact h
 | un=>intro cs hr h; exact h
theorem z1a1 {j i:Nat} (H:Turned M M' j i) {s:SV}:∀ {vs:List Value},(∀ k∈s.roots,k≠i)→z2h w0 ok M s vs→z2h w0 ok M' (s.lsRef j i) vs:=by
 induction s with
 | cns a b iha ihb =>
  intro vs hr h
  obtain ⟨v,vs',rfl,⟨cs,h1,h3⟩,h2⟩:=h
  exact ⟨v,vs',rfl,⟨cs,z3u H (fun k hk=>hr k (by simp [SV.roots,hk])) h1,by rw [(zjt j i a).1]; exact h3⟩,ihb (fun k hk=>hr k (by simp [SV.roots,hk])) h2⟩
 | nl=>intro vs hr h; exact h
 | _=>intro vs hr h; exact h.elim
theorem z1a2 {j i:Nat} (H:Turned M M' j i) {s:SV} {v:Value} (hr:∀ k∈s.roots,k≠i) (h:zr w0 ok M s v):zr w0 ok M' (s.lsRef j i) v:=by
 rcases z35 h with rfl | ⟨c,vs,rfl,rfl,h1⟩ | ⟨cs,h1,h2⟩
 ·trivial
 ·exact ⟨vs,rfl,z1a1 H hr h1⟩
 ·refine z1t (z3u H hr h1) ?_
  unfold z2s
  rw [(zjt j i s).1]
  exact h2
theorem Rep.recontent (R:Rep E w0 ok O σ tm w M) {sl:List (Nat×SV)} {bx:List (Nat×Bx)} (hs:∀ s v,lk sl s=some v→(∃ u,tm[s]?=some u∧zr w0 ok M v u)∧Live ⟨sl,σ.rows,bx⟩ v)
  (hb:∀ i b,lk bx i=some b→(∃ b0,lk σ.bx i=some b0)∧(∃ cs,z1m w0 ok M b.c cs∧w.heap[M.blk i]?=some (.cells cs.toArray b.ty (0,0))∧(b.c.isCh=true→M.bn i=b.c.count∧M.bw i=(E.tyOf b.ty).sz∧b.c.count≤16777216))∧Live ⟨sl,σ.rows,bx⟩ b.c):Rep E w0 ok O ⟨sl,σ.rows,bx⟩ tm w M where
 slots:=fun s v h=>(hs s v h).1
 rows:=R.rows
 boxes:=fun i b h=>(hb i b h).2.1
 rr:=R.rr
 bb:=fun i j hij ⟨b,h⟩ ⟨b',h'⟩=>R.bb i j hij (hb i b h).1 (hb j b' h').1
 rb:=fun i j hi ⟨b,h⟩=>R.rb i j hi (hb j b h).1
 ownR:=R.ownR
 ownB:=fun i ⟨b,h⟩=>R.ownB i (hb i b h).1
 okB:=R.okB
 liveS:=fun s v h=>(hs s v h).2
 liveB:=fun i b h=>(hb i b h).2.2
 kept:=R.kept
 pin:=R.pin
 pinB:=fun i hi ⟨b,h⟩=>R.pinB i hi (hb i b h).1
theorem zvi (R:Rep E w0 ok O σ tm w M) {j:Nat} {b:Bx} (hb:lk σ.bx j=some b) (hch:b.c.isCh=true) {i:Nat} (hi:i<PIN) (hn:lk σ.rows i=none) {t:Ty} {ls:List (L t)} {cs:List Value} (hsz:t.sz=(E.tyOf b.ty).sz) (hlen:ls.length=b.c.count)
  (hcs:z1m w0 ok M b.c cs) (hw:w.heap[M.blk j]?=some (.cells cs.toArray b.ty (0,0))) (hfc:ls.flatMap (za t)=cs) (hh:∀ y∈ls,holds (Rd w0 ok) w t y∧plain w t y) (hbl:ls.flatMap (z7 t)=[]) :
  ∃ M',Rep E w0 ok O (σ.turn j i ⟨b.ty,t,ls.map (erase t),false⟩) tm w M':=by
 obtain ⟨cs2,h1,h2,h3⟩:=R.boxes j b hb
 obtain ⟨n1,n2,n3⟩:=h3 hch
 have hlc:cs.length=ls.length*t.sz:=by rw [← hfc,z1s]
 let l:L (.sl b.ty t):=(some (M.blk j),M.bn j,ls)
 have hbs:z7 (.sl b.ty t) l=[M.blk j]:=by simp only [l,z7,hbl,y2f,y1t]
 have hholds:holds (Rd w0 ok) w (.sl b.ty t) l:=by
  refine ⟨⟨cs.toArray,(0,0),hw,?_,?_,?_,?_,.inl rfl⟩,fun y hy=>(hh y hy).1⟩
  ·simp only [l,hlen,n1]; exact yr _
  ·simp only [l,n1,maxLen]; omega
  ·simp only [l,n1,y1v,hlc,hlen]; exact yr _
  ·simp only [l]
   rw [← hlc,y31,hfc]
 have hplain:plain w (.sl b.ty t) l:=by
  refine ⟨fun q hq=>?_,fun y hy=>(hh y hy).2⟩
  cases hq
  exact ⟨_,_,hw,by simp only [l,y1v,hlc,hlen,n1]⟩
 have hdropno:lk (σ.dropB j).rows i=none:=hn
 have hfree:Free w0 ok O (σ.dropB j) M (z7 (.sl b.ty t) l):=by
  rw [hbs]
  refine ⟨by simp,fun k hk=>?_,fun i' hi' k hk hk2=>?_,fun i' hi' hk=>?_⟩
  ·simp only [y2l] at hk; subst hk; exact R.ownB j ⟨b,hb⟩
  ·simp only [y2l] at hk; subst hk; exact R.rb i' j hi' ⟨b,hb⟩ hk2
  ·simp only [y2l] at hk
   have hne:=zjh hi'
   obtain ⟨b1,hb1⟩:=hi'
   exact R.bb i' j hne ((Sub.dropB σ j).bx i' b1 hb1) ⟨b,hb⟩ hk
 have R2:=(R.dropB j).addOwn i hi l hholds hplain hfree
 have hT:Turned M (z1o M i ⟨.sl b.ty t,l⟩) j i:=⟨fun k hk=>z3e _ _ hk,fun k=>⟨rfl,rfl,rfl⟩,⟨b.ty,t,l,z1w _ _ _,rfl,rfl,by rw [n1]; exact hlen⟩⟩
 have hrows:((σ.dropB j).addRow i ⟨b.ty,t,erase (.sl b.ty t) l,false⟩).rows=(i,(⟨b.ty,t,ls.map (erase t),false⟩:Row))::σ.rows:=by
  unfold St.addRow
  simp only [hdropno]
  rfl
 have hbx:((σ.dropB j).addRow i ⟨b.ty,t,erase (.sl b.ty t) l,false⟩).bx=z14 (fun b:Bx=>(⟨b.ty,b.c.killB j⟩:Bx)) (rm σ.bx j):=by
  unfold St.addRow
  simp only [hdropno]
  rfl
 have rootsNe:∀ u,Live σ u→∀ k∈u.roots,k≠i:=fun u hu k hk e=>by
  obtain ⟨r,hr⟩:=hu.rows k hk
  rw [e,hn] at hr; cases hr
 have lkb:∀ k b',lk (z14 (fun b:Bx=>(⟨b.ty,b.c.lsRef j i⟩:Bx)) (rm σ.bx j)) k=some b'→k≠j∧∃ b0,lk σ.bx k=some b0∧b'=⟨b0.ty,b0.c.lsRef j i⟩:=by
  intro k b' h
  rw [z2c,z5a] at h
  obtain ⟨b0,h0,rfl⟩:=y10.1 h
  split at h0
  ·cases h0
  ·rename_i hne; exact ⟨fun e=>hne e.symm,b0,h0,rfl⟩
 have live:∀ u,Live σ u→Live ⟨z14 (SV.lsRef j i) σ.sl,((σ.dropB j).addRow i ⟨b.ty,t,erase (.sl b.ty t) l,false⟩).rows,z14 (fun b:Bx=>(⟨b.ty,b.c.lsRef j i⟩:Bx)) (rm σ.bx j)⟩ (u.lsRef j i):=by
  intro u hu
  obtain ⟨_,_,_,g4,g5⟩:=zjt j i u
  refine ⟨fun k hk=>?_,fun k hk=>?_⟩
  ·show ∃ r,lk (St.addRow _ _ _).rows k=some r
   rw [hrows,zu]
   rcases g4 k hk with h | ⟨rfl,_⟩
   ·split
    ·exact ⟨_,rfl⟩
    ·exact hu.rows k h
   ·rw [y4 rfl]; exact ⟨_,rfl⟩
  ·obtain ⟨h1,h2⟩:=g5 k hk
   obtain ⟨b0,h0⟩:=hu.boxes k h1
   exact ⟨_,by show lk (z14 _ (rm σ.bx j)) k=_; rw [z2c,z5a,y5 (fun e=>h2 e.symm),h0]; rfl⟩
 have hst:σ.turn j i ⟨b.ty,t,ls.map (erase t),false⟩=⟨z14 (SV.lsRef j i) σ.sl,((σ.dropB j).addRow i ⟨b.ty,t,erase (.sl b.ty t) l,false⟩).rows,z14 (fun b:Bx=>(⟨b.ty,b.c.lsRef j i⟩:Bx)) (rm σ.bx j)⟩:=by
  unfold St.turn
  rw [hrows]
 rw [hst]
 refine ⟨_,R2.recontent (fun s v h=>?_) (fun k b' h=>?_)⟩
 ·rw [z2c] at h
  obtain ⟨u,hu,rfl⟩:=y10.1 h
  obtain ⟨z,z1,z2⟩:=R.slots s u hu
  exact ⟨⟨z,z1,z1a2 hT (rootsNe u (R.liveS s u hu)) z2⟩,live u (R.liveS s u hu)⟩
 ·obtain ⟨hne,b0,h0,rfl⟩:=lkb k b' h
  obtain ⟨cs',q1,q2,q3⟩:=R.boxes k b0 h0
  obtain ⟨_,f2,f3,_,_⟩:=zjt j i b0.c
  refine ⟨⟨⟨b0.ty,b0.c.killB j⟩,by rw [hbx,z2c,z5a,y5 (fun e=>hne e.symm),h0]; rfl⟩,⟨cs',z1a0 hT (rootsNe b0.c (R.liveB k b0 h0)) q1,q2,fun hc=>?_⟩,live b0.c (R.liveB k b0 h0)⟩
  rw [f3] at hc
  rw [f2]
  exact q3 hc
theorem z1a3 (R:Rep E w0 ok O σ tm w M) (j:Nat):∃ M',Rep E w0 ok O (σ.prom E j) tm w M':=by
 unfold St.prom
 split
 ·rename_i b hb
  cases hk:(b.c.isCh&&(Nat.blt (z9h j) PIN&&(match lk σ.rows (z9h j) with | none=>true | some _=>false)))
  ·exact ⟨M,R⟩
  ·simp only [yi]
   simp only [yh] at hk
   obtain ⟨k1,k2,k3⟩:=hk
   have hn:lk σ.rows (z9h j)=none:=by
    split at k3
    ·assumption
    ·cases k3
   obtain ⟨cs,h1,h2,h3⟩:=R.boxes j b hb
   cases hf:(E.tyOf b.ty).flat
   ·simp only [yn]
    cases hc:Nat.beq b.c.count 0
    ·exact ⟨M,R⟩
    ·have hc:=yq hc
     have hcs:cs=[]:=by
      cases hbc:b.c with
      | nl=>rw [hbc] at h1; exact h1
      | cns x y=>rw [hbc] at hc; simp [SV.count] at hc
      | _=>rw [hbc] at k1; cases k1
     subst hcs
     simp only [yi]
     have fin:∀ t:Ty,t.sz=(E.tyOf b.ty).sz→∃ M',Rep E w0 ok O (σ.turn j (z9h j) ⟨b.ty,t,[],false⟩) tm w M':=fun t ht =>
      zvi R hb k1 (y19 k2) hn (t:=t) (ls:=[]) ht (by simp [hc]) h1 h2 rfl (by simp) rfl
     cases E.rdm
     ·exact fin _ rfl
     ·exact fin _ (z79 _)
   ·simp only [yi]
    split
    ·rename_i xs hx
     obtain ⟨ls,g1,g2,g3⟩:=zvh hf h1 hx
     rw [← g1]
     exact zvi R hb k1 (y19 k2) hn rfl g3 h1 h2 g2 (fun y _=>z7i y hf _ w) (y2s.2 fun y _=>z9t y hf)
    ·exact ⟨M,R⟩
 ·exact ⟨M,R⟩
theorem zvj (R:Rep E w0 ok O σ tm w M):∃ M',Rep E w0 ok O (σ.promAll E) tm w M':=by
 unfold St.promAll
 generalize σ.bx.filterMap (fun x=>bif x.2.c.isCh then some x.1 else none)=l
 induction l generalizing σ M with
 | nil=>exact ⟨M,R⟩
 | cons j l ih =>
  obtain ⟨M1,R1⟩:=z1a3 R j
  exact ih R1
end

theorem zhh:∀ (n:Nat) (l:List Nat),l.Nodup→(∀ x∈l,x<n)→l.length≤n
 | 0,l,_,h=>by
  cases l with
  | nil=>exact yr _
  | cons a l=>exact absurd (h a (by simp)) (y3g _)
 | n+1,l,hn,h=>by
  have h1:=zhh n (l.erase n) (hn.erase n) (fun x hx=>by
   have:=(hn.mem_erase_iff).1 hx
   have h2:=h x this.2
   have:=this.1
   omega)
  by_cases hm:n∈l
  ·rw [List.length_erase_of_mem hm] at h1; omega
  ·rw [List.erase_of_not_mem hm] at h1; omega
theorem zqh:∀ {l:List Nat},l.Nodup→∀ {i j:Nat} (hi:i<l.length) (hj:j<l.length),l[i]=l[j]→i=j
 | [],_,i,j,hi,_,_=>by simp at hi
 | a::l,hn,0,0,_,_,_=>rfl
 | a::l,hn,0,j+1,hi,hj,h=>by
  have h1:=(y1x.1 hn).1
  simp only [y5z,y5j] at h
  exact absurd (h▸y1l _) h1
 | a::l,hn,i+1,0,hi,hj,h=>by
  have h1:=(y1x.1 hn).1
  simp only [y5z,y5j] at h
  exact absurd (h▸y1l _) h1
 | a::l,hn,i+1,j+1,hi,hj,h=>by
  have h2:=(y1x.1 hn).2
  simp only [y5j] at h
  rw [zqh h2 (by simpa using hi) (by simpa using hj) h]
theorem z1a4 {D:Nat→Prop}:∀ t,¬ D t→∃ s,s≤t∧¬ D s∧∀ u,u<s→D u:=by
 intro t
 induction t using Nat.strongRecOn with
 | _ t ih =>
  intro ht
  by_cases h:∀ u,u<t→D u
  ·exact ⟨t,yr _,ht,h⟩
  ·have:∃ u,u<t∧¬ D u:=y2m fun hne=>h fun u hu=>y2m fun hd=>hne ⟨u,hu,hd⟩
   obtain ⟨u,hu,hd⟩:=this
   obtain ⟨s,h1,h2,h3⟩:=ih u hu hd
   exact ⟨s,by omega,h2,h3⟩

theorem zdw {all:List Oper} {L:Array Bool} {i:Nat}:i∈Region.ready .any all.toArray L↔i<all.length∧L.getD i true=false∧∀ o,all[i]?=some o→∀ e∈o.after.toList,Region.binds .any e=true→L.getD e.on false=true:=by
 unfold Region.ready
 rw [y2n,y1a]
 simp only [y1v,yh,y1h]
 refine and_congr_right fun hi=>and_congr_right fun _=>?_
 have ho:all.toArray[i]?=some all[i]:=by simp [hi]
 rw [ho]
 simp only [y20,y5k]
 constructor
 ·intro h o ho' e he hb
  rw [yj hi] at ho'
  cases ho'
  have:=y60.1 h e (Array.mem_toList_iff.1 he)
  rw [hb] at this
  simpa using this
 ·intro h
  refine y60.2 fun e he=>?_
  cases hb:Region.binds .any e with
  | false=>rfl
  | true =>
   have:=h all[i] (yj hi) e (Array.mem_toList_iff.2 he) hb
   rw [this]; rfl
theorem z9v {L:Array Bool} {i:Nat} (h:i<L.size):L.getD i true=L.getD i false:=by
 simp [y3a,h]
theorem zqi {L:Array Bool} {i t:Nat} (h:i<L.size):(L.setIfInBounds i true).getD t false=true↔t=i∨L.getD t false=true:=by
 simp only [y3a]
 by_cases hti:i=t
 ·subst hti; simp [h]
 ·rw [y53 hti]
  constructor
  ·exact fun h=>.inr h
  ·rintro (h | h)
   ·exact absurd h.symm hti
   ·exact h

section
variable {P : Program} {E : Env} {w0 : World} {ok O : Nat → Prop} {σ σ' : St} {tm : Array Value} {w w' : World} {M : Map} {a : Act}

abbrev ZOK (all:List Oper) (m:Nat) (Z:List Nat) (t:Nat):Prop:=Region.noSelect all.toArray=true∧(∃ o,all[t]?=some o∧z9i o=true∧(t<m→∀ e∈o.after.toList,Region.binds .any e=true→e.on∈Z))∧Region.free .any all.toArray (zb0 all.length Z m t) t=true
abbrev TOK (all:List Oper) (m:Nat) (Z:List Nat):Prop:=∀ j,m≤j→j<all.length→∀ t,t<j→((z15 all []).getD j 0).testBit t=true∨t∈Z

theorem zju {o:Oper} (h:z9i o=true):o.guard=none ∧
  ((∃ s,o.op=.move (.tmp s)∨o.op=.assign (.tmp s))∨(∃ x n,o.op=.extract x n)∨∃ op t x y u,o.op=.binOp op t x y u∧(op=.add∨op=.sub∨op=.mul)):=by
 simp only [z9i,yh] at h
 obtain ⟨h1,h3⟩:=h
 refine ⟨Option.isNone_iff_eq_none.1 h1,?_⟩
 split at h3
 ·rename_i s hop; exact .inl ⟨s,.inl hop⟩
 ·rename_i s hop; exact .inl ⟨s,.inr hop⟩
 ·rename_i x n hop; exact .inr (.inl ⟨x,n,hop⟩)
 ·rename_i hop; exact .inr (.inr ⟨_,_,_,_,_,hop,.inl rfl⟩)
 ·rename_i hop; exact .inr (.inr ⟨_,_,_,_,_,hop,.inr (.inl rfl)⟩)
 ·rename_i hop; exact .inr (.inr ⟨_,_,_,_,_,hop,.inr (.inr rfl)⟩)
 ·cases h3

theorem zvk (R:Rep E w0 ok O σ a.tmps w M) (T:zh P E.ti=true) (EQ:z2f P E) {o:Oper} {x:Out} (hm:z9i o=true) (h:zw E σ o=some x) :
  ∃ v u,x=(v,[],[])∧(∀ w,(execOp a.eval o).run P w=.ok (.value u) w)∧zr w0 ok M v u∧Live σ v:=by
 obtain ⟨_,hop | ⟨p,n,hop⟩ | ⟨op,t,p,q,u,hop,hopk⟩⟩:=zju hm
 ·obtain ⟨s,hop⟩:=hop
  have hp:∃ v,lk σ.sl s=some v∧x=(v,[],[]):=by
   unfold zw z1h at h
   rcases hop with hop | hop <;> rw [hop] at h <;> simp only [opd] at h <;> split at h
   ·rename_i u hu; cases h; exact ⟨u,hu,rfl⟩
   ·cases h
   ·rename_i u hu; cases h; exact ⟨u,hu,rfl⟩
   ·cases h
  obtain ⟨v,hv,rfl⟩:=hp
  obtain ⟨u,hu1,hu2⟩:=R.slots s v hv
  have hev:a.eval (.tmp s)=u:=by
   show a.tmps.getD s undef=u
   rw [y3a,hu1]; rfl
  refine ⟨v,u,rfl,fun w=>?_,hu2,R.liveS s v hv⟩
  unfold execOp
  rcases hop with hop | hop <;> rw [hop] <;> simp only [hev] <;> rfl
 ·unfold zw z1h at h
  rw [hop] at h
  simp only [] at h
  split at h
  ·rename_i s hs
   split at h
   ·rename_i r hr
    cases h
    obtain ⟨⟨vs,hv,h1⟩,h2⟩:=z1b R rfl hs
    obtain ⟨v,cs,h3,h4,h5⟩:=zpw h1 hr
    refine ⟨r,v,rfl,fun w=>?_,z1t h4 h5,zpx hr ⟨h2.rows,h2.boxes⟩⟩
    unfold execOp
    rw [hop]
    simp only [hv,Instr.extract]
    rw [← y2q,h3]
    rfl
   ·cases h
  ·cases h
 ·have h0:=h
  unfold zw z1h at h
  rw [hop] at h
  simp only [] at h
  split at h
  ·rename_i sx sy hx hy
   rw [z17] at h
   obtain ⟨⟨t1,x1⟩,h1,h⟩:=yk.1 h
   rw [z17] at h
   obtain ⟨⟨t2,x2⟩,h2,h⟩:=yk.1 h
   obtain ⟨cs,hr1,hw1⟩:=z88 R rfl hx h1
   obtain ⟨ds,hr2,hw2⟩:=z88 R rfl hy h2
   have fin:∀ {v:SVal} (u:Value),(∀ w,(do eqGuard op t p q (a.eval p) (a.eval q); binOp op t (a.eval p) (a.eval q):Sem Value).run P w=.ok u w)→(∃ s:SV,s=.val v.t v.x∧zr w0 ok M s u) →
     ∃ v' u,((SV.val v.t v.x,[],[]):Out)=(v',[],[])∧(∀ w,(execOp a.eval o).run P w=.ok (.value u) w)∧zr w0 ok M v' u∧Live σ v':=by
    rintro v u hz ⟨s,rfl,hs⟩
    refine ⟨_,u,rfl,fun w=>?_,hs,z36 _ _⟩
    have hz:=hz w
    unfold execOp
    rw [hop]
    simp only [Sem.run_bind] at hz ⊢
    rw [hz]
    rfl
   match t1,t2,x1,x2,h,hr1,hw1,hr2,hw2 with
   | .int k,.int l,x1,x2,h,hr1,hw1,hr2,hw2 =>
    have e1:=zdp hr1 hw1
    have e2:=zdp hr2 hw2
    rw [e1,e2] at fin
    have hi:∃ v,zdg op k x1 x2=some v∧k=l∧x=(.val v.t v.x,[],[]):=by
     rcases hopk with rfl | rfl | rfl <;> simp only [z6j] at h <;> split at h
     all_goals first
      | (rename_i hk; subst hk; simp only [zas] at h; cases h; exact ⟨⟨.int k,_⟩,rfl,rfl,rfl⟩)
      | cases h
    obtain ⟨v,hv,rfl,rfl⟩:=hi
    have hvt:v.t=.int k:=by
     rcases hopk with rfl | rfl | rfl <;> (unfold zdg at hv; simp only [zas] at hv; cases hv; rfl)
    obtain ⟨vt,vx⟩:=v
    cases hvt
    refine fin (v:=⟨.int k,vx⟩) (.int k vx) (fun w=>?_) ⟨_,rfl,⟨[.int k vx],rfl,.inr ⟨rfl,rfl⟩⟩⟩
    obtain ⟨u,hu1,hu2,_⟩:=zu2 (P:=P) hv t p q w
    have:u=.int k vx:=by simpa [Rd] using hu2
    rw [← this]; exact hu1
   | .str,.str,x1,x2,h,hr1,hw1,hr2,hw2 =>
    have e1:=z9m hr1 hw1
    have e2:=z9m hr2 hw2
    rw [e1,e2] at fin
    have hi:∃ v,zdh op x1 x2=some v∧x=(.val v.t v.x,[],[])∧v.t=.str:=by
     rcases hopk with rfl | rfl | rfl <;> simp only [z6j,zat] at h
     ·split at h
      ·rename_i hl; cases h; exact ⟨⟨.str,x1++x2⟩,by unfold zdh; simp only [zat]; rw [if_pos hl],rfl,rfl⟩
      ·cases h
     ·cases h
     ·cases h
    obtain ⟨v,hv,rfl,hvt⟩:=hi
    obtain ⟨vt,vx⟩:=v
    cases hvt
    refine fin (v:=⟨.str,vx⟩) (.string ⟨vx.toArray⟩) (fun w=>?_) ⟨_,rfl,⟨[.string ⟨vx.toArray⟩],rfl,.inr ⟨rfl,rfl⟩⟩⟩
    obtain ⟨u,hu1,hu2,_⟩:=zu3 (P:=P) hv t p q w
    have:u=.string ⟨vx.toArray⟩:=by simpa [Rd] using hu2
    rw [← this]; exact hu1
   | .st t1,.st t2,x1,x2,h,hr1,hw1,hr2,hw2 =>
    exfalso
    rcases hopk with rfl | rfl | rfl <;> simp only [z6j] at h <;> (repeat' split at h) <;> first | cases h | contradiction
   | .bool,.bool,x1,x2,h,hr1,hw1,hr2,hw2 =>
    exfalso
    rcases hopk with rfl | rfl | rfl <;> simp only [z6j] at h <;> (repeat' split at h) <;> first | cases h | contradiction
  ·cases h

theorem z1a5 {R0:Type} {o:Oper} (hm:z9i o=true) {k:St→Option R0}:z9e E σ o k=zax E σ o k:=by
 obtain ⟨_,⟨s,hop | hop⟩ | ⟨p,n,hop⟩ | ⟨op,t,p,q,u,hop,hopk⟩⟩:=zju hm
 ·unfold z9e; rw [hop]
 ·unfold z9e; rw [hop]
 ·unfold z9e; rw [hop]
 ·unfold z9e; rw [hop]
  rcases hopk with rfl | rfl | rfl <;> rfl

section
variable {all : List Oper} {m : Nat} {Z : List Nat} {Q : Exit → Act → World → Prop} {L : Array Bool}
theorem zvl (hs:L.size=all.length) {i:Nat} (hL:∀ t,L.getD t false=true↔t<i) (hi:i=all.length):Region.ready .any all.toArray L=[]:=by
 refine List.eq_nil_iff_forall_not_mem.2 fun j hj=>?_
 obtain ⟨h1,h2,_⟩:=zdw.1 hj
 rw [z9v (by omega)] at h2
 have:=(hL j).2 (by omega)
 rw [this] at h2; cases h2
theorem zvm (hE:z56 0 all=true) (hs:L.size=all.length) {i:Nat} (hL:∀ t,L.getD t false=true↔t<i) (hlt:i<all.length):i∈Region.ready .any all.toArray L :=
 zdw.2 ⟨hlt,by
  rw [z9v (by omega)]
  cases hq:L.getD i false with
  | false=>rfl
  | true=>have:=(hL i).1 hq; omega,fun o ho e he hb=>(hL _).2 (by have:=zdv hE i o ho e he hb; omega)⟩
theorem zjv (hs:L.size=all.length) {i:Nat} (hL:∀ t,L.getD t false=true↔t<i) (hlt:i<all.length):∀ t,(L.setIfInBounds i true).getD t false=true↔t<i+1:=fun t=>by
 rw [zqi (by omega),hL t]; omega
theorem zjw (hE:z56 0 all=true) (hT:TOK all m Z) (hs:L.size=all.length) {i:Nat} (hL:∀ t,L.getD t false=true↔t<i) (hm:m≤i) (hlt:i<all.length) (hnz:i∉Z) {fuel:Nat} (h:wpOp P all.toArray Q i (wpAny P .any all.toArray Q fuel (L.setIfInBounds i true)) a w):wpAny P .any all.toArray Q (fuel+1) L a w:=by
 have hmem:=zvm hE hs hL hlt
 have hcl:zjs all (fun t=>t<i):=fun j o hj ho e he hb=>by
  have:=zdv hE j o ho e he hb
  omega
 refine ⟨fun h0=>absurd hmem (by rw [h0]; simp),fun i' hi'=>?_⟩
 obtain ⟨r1,r2,r3⟩:=zdw.1 hi'
 rw [z9v (by omega)] at r2
 have hge':i≤i':=by
  rcases y22 i' i with h | h
  ·rw [(hL i').2 h] at r2; cases r2
  ·exact h
 have:i'=i:=by
  rcases y22 i i' with h | h
  ·exfalso
   have:=zqg hE hcl i' all[i'] (yj r1) (fun e he hb=>(hL _).1 (r3 _ (yj r1) e he hb)) i ((hT i' (by omega) r1 i h).resolve_right hnz)
   exact y23 _ this
  ·omega
 subst this
 exact h
theorem z1a6 (hE:z56 0 all=true) (hQp:∀ c a w,¬ Q (.panic c) a w) (hs:L.size=all.length) {i:Nat} (hL:∀ t,L.getD t false=true↔t<i) (hm:m≤i) (hlt:i<all.length) (hz:ZOK all m Z i) {o:Oper} (ho:all[i]?=some o) {u:Value} (hg:o.guard=none) (hrun:∀ w,(execOp a.eval o).run P w=.ok (.value u) w) {fuel:Nat}
  (h:wpAny P .any all.toArray Q fuel (L.setIfInBounds i true) (a.put o.dst u) w):wpAny P .any all.toArray Q (fuel+1) L a w:=by
 have hoa:all.toArray[i]?=some o:=by simpa using ho
 obtain ⟨hsel,_,hfree⟩:=hz
 refine wpAny_first hoa (Region.noSelect_spec hsel) (fun c a w h=>absurd h (hQp c _ w)) fuel L a w (fun j oj hj hji hun hno=>?_) (zvm hE hs hL hlt) (.inl ⟨by unfold Region.wanted; rw [hg],hrun⟩) h
 have hjl:j<all.length:=by
  have:=(y1s.1 hj).1
  simpa using this
 refine Region.free_spec hoa hfree j oj hj hji ?_ hno
 have hji2:¬ j<i:=fun h=>by
  have:=(hL j).2 h
  rw [z9v (by omega)] at hun
  rw [this] at hun; cases hun
 have:(zb0 all.length Z m i).getD j true=(Nat.blt j i&&(Nat.ble m i||Z.any (Nat.beq j))):=by
  simp [zb0,y3a,hjl]
 rw [this]
 cases hb:Nat.blt j i with
 | false=>rfl
 | true=>exact absurd (y19 hb) hji2

theorem zvn [Glob P] {R0:Type} {res:R0} (T:zh P E.ti=true) (EQ:z2f P E) {n:Nat} (hZ:∀ t∈Z,ZOK all m Z t) (hE:z56 0 all=true) (hT:TOK all m Z) (hQp:∀ c a w,¬ Q (.panic c) a w)
  (hB:∀ o∈all,∀ d,o.dst=some d→d<n) {k:St→Option R0} :
  ∀ (fuel:Nat) {w0:World} {ok O:Nat→Prop},SpecOK P E w0 O→z38 P E w0 O→z1x E w0 ok O res n k (Q .normal)→∀ (i:Nat) (L:Array Bool) (σ:St) (a:Act) (w:World) (M:Map),L.size=all.length→(∀ t,L.getD t false=true↔t<i)→m≤i→i≤all.length→all.length≤fuel+i→z6k E all i (all.drop i) σ k=some res →
   Rep E w0 ok O σ a.tmps w M→a.tmps.size=n→a.defers=[]→wpAny P .any all.toArray Q fuel L a w:=by
 intro fuel
 induction fuel with
 | zero =>
  intro w0 ok O S K hQ i L σ a w M hs hL hm hi hf h R hn hd
  have he:i=all.length:=by omega
  subst he
  rw [List.drop_length] at h
  exact ⟨zvl hs hL rfl,hQ.at σ a w M h R hn hd⟩
 | succ fuel ih =>
  intro w0 ok O S K hQ i L σ a w M hs hL hm hi hf h R hn hd
  rcases y22 i all.length with hlt | hge
  ·have hdrop:all.drop i=all[i]::all.drop (i+1):=y2i hlt
   rw [hdrop] at h
   have hia:all.toArray[i]?=some all[i]:=by simp [hlt]
   have hin:inB all[i].dst a.tmps:=fun d hd=>by rw [hn]; exact hB _ (y1l hlt) d hd
   have hL':=zjv hs hL hlt
   simp only [z6k] at h
   by_cases hz:i∈Z
   ·have hzi:=hZ i hz
    obtain ⟨_,⟨o,ho,hmv,_⟩,_⟩:=hzi
    have ho2:=ho
    rw [yj hlt] at ho2
    cases ho2
    obtain ⟨hg,_⟩:=zju hmv
    simp only [z45,hg] at h
    rw [z1a5 hmv] at h
    unfold zax at h
    rw [zpo] at h
    obtain ⟨out,h1,h2⟩:=yk.1 h
    have R':=R.clean (z12 all[i])
    obtain ⟨v,u,rfl,hrun,hu2,hlv⟩:=zvk R' T EQ hmv h1
    cases hf2:(σ.clean (z12 all[i])).fresh (z12 all[i]) [] [] <;> rw [hf2] at h2
    ·cases h2
    ·simp only [yi] at h2
     have R2:=R'.putV (d:=all[i].dst) hu2 hlv hin
     obtain ⟨σ2,h3,R3⟩:=zqb R2 h2
     refine z1a6 hE hQp hs hL hm hlt (hZ i hz) ho hg hrun (ih S K hQ (i+1) _ σ2 (a.put all[i].dst u) w M (by simpa using hs) hL' (by omega) (by omega) (by omega) h3 (by rw [z1u]; exact R3) (by rw [z1u,z4b,hn]) (by rw [z4v]; exact hd))
   ·refine zjw hE hT hs hL hm hlt hz ?_
    unfold wpOp
    rw [hia]
    simp only []
    rcases zjo R h with ⟨hw,h⟩ | ⟨hw,h⟩
    ·rw [y4 hw]
     refine .inl (zvb R T EQ S K hin hd h ?_)
     intro w2 ok2 O2 hc σ1 a1 w1 M1 h1 R1 hn1 hd1
     obtain ⟨σ2,h2,R2⟩:=zqb R1 h1
     exact ih (S.chg hc) (K.chg hc) (hQ.chg hc) (i+1) _ σ2 a1 w1 M1 (by simpa using hs) hL' (by omega) (by omega) (by omega) h2 R2 (by rw [hn1,hn]) hd1
    ·rw [y5 (by rw [hw]; simp)]
     refine ih S K hQ (i+1) _ _ _ w M (by simpa using hs) hL' (by omega) (by omega) (by omega) h ?_ (by rw [z1u,z4b,hn]) (by rw [z4v]; exact hd)
     rw [z1u]
     exact R.putSkip hin
  ·have he:i=all.length:=by omega
   subst he
   rw [List.drop_length] at h
   have h0:=zvl hs hL rfl
   exact ⟨fun _=>hQ.at σ a w M h R hn hd,fun i' hi'=>by rw [h0] at hi'; cases hi'⟩
theorem zvo [Glob P] {R0:Type} {res:R0} (T:zh P E.ti=true) (EQ:z2f P E) {n:Nat} (hZ:∀ t∈Z,ZOK all m Z t) (hE:z56 0 all=true) (hT:TOK all m Z) (hQp:∀ c a w,¬ Q (.panic c) a w)
  (hB:∀ o∈all,∀ d,o.dst=some d→d<n) {k:St→Option R0} (fuel:Nat) {w0:World} {ok O:Nat→Prop} (S:SpecOK P E w0 O) (K:z38 P E w0 O) (hQ:z1x E w0 ok O res n k (Q .normal)) (i:Nat) (L:Array Bool) (σ:St) (a:Act) (w:World) (M:Map) (hs:L.size=all.length) (hL:∀ t,L.getD t false=true↔t<i) (hm:m≤i) (hi:i≤all.length) (hf:all.length≤fuel+i) (h:zda E all i (all.drop i) σ k=some res)
   (R:Rep E w0 ok O σ a.tmps w M) (hn:a.tmps.size=n) (hd:a.defers=[]):wpAny P .any all.toArray Q fuel L a w:=by
 have plainly:=fun h=>zvn T EQ hZ hE hT hQp hB fuel S K hQ i L σ a w M hs hL hm hi hf h R hn hd
 unfold zda at h
 split at h
 ·rename_i l d1 args ts ty1 po1 af1 d2 xt p q ty2 po2 af2 t' s2 s1 ty3 po3 af3 r hl
  split at h
  ·rename_i x y t tx hargs hts
   split at h
   ·rename_i j ni hx
    cases hb:(Nat.beq s1 d1&&(Nat.beq s2 d2&&!Nat.beq d1 d2)) <;> rw [hb] at h
    ·cases h
    ·simp only [yh,y1h] at hb
     obtain ⟨b1,b2,b3⟩:=hb
     have b1:=yq b1
     have b2:=yq b2
     subst b1 b2
     have b3:s1≠s2:=fun e=>by subst e; simp at b3
     simp only [yi] at h
     have ha:args=#[x,y]:=by apply y1u; rw [hargs]
     have ht:ts=#[t,tx]:=by apply y1u; rw [hts]
     subst ha ht
     have g0:∀ j,(all.drop i)[j]?=all[i+j]?:=fun j=>by rw [y39]
     have o1:=g0 0
     have o2:=g0 1
     have o3:=g0 2
     rw [hl] at o1 o2 o3
     have hl3:all.drop (i+3)=r:=by
      have:(all.drop i).drop 3=r:=by rw [hl]; rfl
      rwa [y5f] at this
     have l3:i+2<all.length:=(yo.1 o3.symm).1
     have nz:∀ j o,all[j]?=some o→z9i o=false→j∉Z:=fun j o ho hk hz=>by
      obtain ⟨_,⟨o',ho',hm',_⟩,_⟩:=hZ j hz
      rw [ho] at ho'; cases ho'
      rw [hk] at hm'; cases hm'
     obtain ⟨fuel,rfl⟩:∃ f,fuel=f+3:=⟨fuel-3,by omega⟩
     have hi1:s1<a.tmps.size:=by rw [hn]; exact hB _ (ym o1.symm) s1 rfl
     have hi2:s2<a.tmps.size:=by rw [hn]; exact hB _ (ym o2.symm) s2 rfl
     have w1:=z19p (P:=P) R T hi1 hi2 b3 hx h
     have wop:∀ (j:Nat) (o:Oper) (K:Act→World→Prop) (a:Act) (w:World),all[j]?=some o→o.guard=none→o.wp P a w K Q→wpOp P all.toArray Q j K a w:=fun j o K a w ho hg hw=>by
      unfold wpOp
      rw [show all.toArray[j]?=some o by simpa using ho]
      simp only []
      rw [if_pos (by unfold Region.wanted; rw [hg])]
      exact .inl hw
     have hL1:=zjv hs hL (by omega:i<all.length)
     have hL2:=zjv (L:=L.setIfInBounds i true) (by simpa using hs) hL1 (by omega)
     have hL3:=zjv (L:=(L.setIfInBounds i true).setIfInBounds (i+1) true) (by simpa using hs) hL2 (by omega)
     refine zjw hE hT hs hL hm (by omega) (nz i _ o1.symm rfl) (wop _ _ _ _ _ o1.symm rfl ?_)
     refine Oper.wp_mono (K:=fun a1 w1=>Oper.wp P ⟨some s2,.indexAddr xt p q,ty2,po2,af2,none⟩ a1 w1 (fun a2 w2=>Oper.wp P ⟨none,.store t' (.tmp s2) (.tmp s1),ty3,po3,af3,none⟩ a2 w2 (fun a3 w3=>wpAny P .any all.toArray Q fuel (((L.setIfInBounds i true).setIfInBounds (i+1) true).setIfInBounds (i+2) true) a3 w3) Q) Q) (fun a1 w1 h1=>?_) (w1 ty1 po1 af1 ty2 po2 af2 ty3 po3 af3 (fun σ' w' M' a' h' R' ha' hd'=>?_))
     ·refine zjw hE hT (by simpa using hs) hL1 (by omega) (by omega) (nz (i+1) _ o2.symm rfl) (wop _ _ _ _ _ o2.symm rfl ?_)
      exact Oper.wp_mono (fun a2 w2 h2=>zjw hE hT (by simpa using hs) hL2 (by omega) (by omega) (nz (i+2) _ o3.symm rfl) (wop _ _ _ _ _ o3.symm rfl h2)) h1
     ·rw [← hl3] at h'
      exact zvn T EQ hZ hE hT hQp hB fuel S K hQ (i+3) _ σ' a' w' M' (by simpa using hs) hL3 (by omega) (by omega) (by omega) h' R' (by rw [ha',hn]) (by rw [hd',hd])
   ·exact plainly h
  ·exact plainly h
 ·exact plainly h
end

theorem z1a7 [Glob P] {R0:Type} {res:R0} (T:zh P E.ti=true) (EQ:z2f P E) (S:SpecOK P E w0 O) (K:z38 P E w0 O) {all:List Oper} {m n:Nat} {base σ':St} {outs:List Out} (F:FreeP E all m base outs) (hc:Chars base all outs m σ') {Z:List Nat} (hZ:∀ t∈Z,ZOK all m Z t)
  (hT:TOK all m Z) (hB:∀ o∈all,∀ d,o.dst=some d→d<n) {k:St→Option R0} {Q:Exit→Act→World→Prop} (hQ:z1x E w0 ok O res n k (Q .normal)) (hQp:∀ c a w,¬ Q (.panic c) a w)
  (hk:zda E all m (all.drop m) (σ'.promAll E) k=some res) :
  ∀ (fuel:Nat) (ds:List Nat) (L:Array Bool) (σD:St) (a:Act) (w:World) (M:Map),L.size=all.length→(∀ t,L.getD t false=true↔t∈ds)→ds.Nodup→(∀ t∈ds,t<m)→(∀ t∈Z,t<m→t∈ds)→all.length≤fuel+ds.length→zjs all (·∈ds)→Done base all outs (·∈ds) σD →
   Rep E w0 ok O σD a.tmps w M→a.tmps.size=n→a.defers=[]→wpAny P .any all.toArray Q fuel L a w:=by
 intro fuel
 induction fuel with
 | zero =>
  intro ds L σD a w M hs hL hnd hdm hzd hf hcl hD R hn hd
  by_cases hall:∀ t,t<m→t∈ds
  ·have hiff:∀ t,L.getD t false=true↔t<m:=fun t=>(hL t).trans ⟨hdm t,hall t⟩
   obtain ⟨M2,R2⟩:=zvj (final_rep F hc hD hall R)
   exact zvo T EQ hZ F.edges hT hQp hB 0 S K hQ m L _ a w M2 hs hiff (yr _) F.le (by
    have:=zhh m ds hnd hdm
    omega) hk R2 hn hd
  ·exfalso
   have:∃ t,t<m∧t∉ds:=y2m fun hne=>hall fun t ht=>y2m fun h=>hne ⟨t,ht,h⟩
   obtain ⟨t,ht,hn'⟩:=this
   have:=zhh m (t::ds) (y1x.2 ⟨hn',hnd⟩) (fun x hx=>by rcases yx.1 hx with rfl | hx; exact ht; exact hdm x hx)
   have:=F.le
   simp only [y1k] at *
   omega
 | succ fuel ih =>
  intro ds L σD a w M hs hL hnd hdm hzd hf hcl hD R hn hd
  by_cases hall:∀ t,t<m→t∈ds
  ·have hiff:∀ t,L.getD t false=true↔t<m:=fun t=>(hL t).trans ⟨hdm t,hall t⟩
   obtain ⟨M2,R2⟩:=zvj (final_rep F hc hD hall R)
   exact zvo T EQ hZ F.edges hT hQp hB (fuel+1) S K hQ m L _ a w M2 hs hiff (yr _) F.le (by
    have:=zhh m ds hnd hdm
    omega) hk R2 hn hd
  ·have:∃ t,t<m∧t∉ds:=y2m fun hne=>hall fun t ht=>y2m fun h=>hne ⟨t,ht,h⟩
   obtain ⟨t,ht,hnt⟩:=this
   obtain ⟨s,s1,s2,s3⟩:=z1a4 (D:=(·∈ds)) t hnt
   have hsm:s<m:=by omega
   have hsl:s<all.length:=y3k hsm F.le
   have hmem:s∈Region.ready .any all.toArray L:=zdw.2 ⟨hsl,by
    rw [z9v (by omega)]
    cases hq:L.getD s false with
    | false=>rfl
    | true=>exact absurd ((hL s).1 hq) s2,fun o ho e he hb=>(hL _).2 (s3 _ (by have:=zdv F.edges s o ho e he hb; omega))⟩
   refine ⟨fun h0=>absurd hmem (by rw [h0]; simp),fun i hi=>?_⟩
   obtain ⟨r1,r2,r3⟩:=zdw.1 hi
   rw [z9v (by omega)] at r2
   have hni:i∉ds:=fun h=>by rw [(hL i).2 h] at r2; cases r2
   have hp:=zqg F.edges hcl i all[i] (yj r1) (fun e he hb=>(hL _).1 (r3 _ (yj r1) e he hb))
   rcases y22 i m with him | him
   ·refine z19z T EQ S F hD hdm him hni hp hB R hn hd fun σ1 a1 w1 M1 hD1 R1 hn1 hd1=>?_
    have hD2:Done base all outs (·∈i::ds) σ1:=by
     have e:(fun t=>t=i∨t∈ds)=(·∈i::ds):=by funext t; simp
     rw [← e]; exact hD1
    refine ih (i::ds) _ σ1 a1 w1 M1 (by simpa using hs) (fun t=>?_) (List.nodup_cons.2 ⟨hni,hnd⟩) (fun x hx=>?_) (fun x hx hxm=>List.mem_cons_of_mem _ (hzd x hx hxm)) (by simp only [List.length_cons]; omega) ?_ hD2 R1 hn1 hd1
    ·rw [zqi (by omega),hL t]; simp
    ·rcases yx.1 hx with rfl | hx
     ·exact him
     ·exact hdm x hx
    ·intro j o hj ho e he hb
     rcases yx.1 hj with rfl | hj
     ·exact y27 _ ((hL _).1 (r3 o ho e he hb))
     ·exact y27 _ (hcl j o hj ho e he hb)
   ·rcases hT i him r1 t (by omega) with h | h
    ·exact absurd (hp t h) hnt
    ·exact absurd (hzd t h ht) hnt
where
 final_rep {all:List Oper} {m:Nat} {base σ' σD:St} {outs:List Out} {ds:List Nat} {a:Act} {w:World} {M:Map} (F:FreeP E all m base outs) (hc:Chars base all outs m σ') (hD:Done base all outs (·∈ds) σD) (hall:∀ t,t<m→t∈ds) (R:Rep E w0 ok O σD a.tmps w M):Rep E w0 ok O σ' a.tmps w M:=by
  have hle:Le σ' σD:=by
   constructor
   ·intro s v h
    rcases hc.sl s v h with h | ⟨t,o,x,ht,ho,hx,hd,rfl⟩
    ·exact hD.sl s v h
    ·exact hD.out t o x s (hall t ht) ho hx hd
   ·intro s v h
    rcases hc.rows s v h with h | ⟨t,x,ht,hx,h⟩
    ·exact hD.rows s v h
    ·exact hD.rowsO t x s v (hall t ht) hx h
   ·intro s v h
    rcases hc.bx s v h with h | ⟨t,x,ht,hx,h⟩
    ·exact hD.bx s v h
    ·exact hD.bxO t x s v (hall t ht) hx h
  have live:∀ u,Live σD u→Live σ' u:=fun u hu=>⟨fun i hi=>by
   obtain ⟨r,hr⟩:=hu.rows i hi
   rcases hD.rowsB i r hr with h | ⟨j,x,r',hj,hx,h⟩
   ·exact hc.rows' i ⟨r,h⟩
   ·have hjm:j<m:=by
     have:=(yo.1 hx).1
     rw [F.len] at this; exact this
    exact hc.rowsO j x i hjm hx ⟨r',h⟩,fun i hi=>by
   obtain ⟨r,hr⟩:=hu.boxes i hi
   rcases hD.bxB i r hr with h | ⟨j,x,r',hj,hx,h⟩
   ·exact hc.bx' i ⟨r,h⟩
   ·have hjm:j<m:=by
     have:=(yo.1 hx).1
     rw [F.len] at this; exact this
    exact hc.bxO j x i hjm hx ⟨r',h⟩⟩
  exact R.le hle (fun s v h=>live v (R.liveS s v (hle.sl s v h))) (fun i b h=>live b.c (R.liveB i b (hle.bx i b h)))

theorem zvp:∀ {l:List Oper} {ds:List Nat},zj0 l=some ds→ds.length=l.length∧∀ (j:Nat) (o:Oper),l[j]?=some o→∃ d,o.dst=some d∧ds[j]?=some d
 | [],ds,h=>by cases h; exact ⟨rfl,fun j o hj=>by simp at hj⟩
 | o::l,ds,h=>by
  simp only [zj0] at h
  split at h
  ·rename_i d ds' h1 h2
   cases h
   obtain ⟨e1,e2⟩:=zvp h2
   refine ⟨by simp [e1],fun j o' hj=>?_⟩
   cases j with
   | zero=>simp at hj; subst hj; exact ⟨d,h1,rfl⟩
   | succ j=>simp only [y1q] at hj ⊢; exact e2 j o' hj
  ·cases h

theorem z1a8 {all:List Oper} (hle:z47 (z15 all []) 0≤all.length) (hT:∀ j,z47 (z15 all []) 0≤j→j<all.length→zaz j ((z15 all []).getD j 0)=true) :
  (z4u E all (z15 all [])).1≤all.length∧(z4u E all (z15 all [])).2.Pairwise (·<·) ∧
  (∀ t∈(z4u E all (z15 all [])).2,ZOK all (z4u E all (z15 all [])).1 (z4u E all (z15 all [])).2 t)∧TOK all (z4u E all (z15 all [])).1 (z4u E all (z15 all [])).2:=by
 have base:z47 (z15 all []) 0≤all.length∧([]:List Nat).Pairwise (·<·)∧(∀ t∈([]:List Nat),ZOK all (z47 (z15 all []) 0) [] t)∧TOK all (z47 (z15 all []) 0) [] :=
  ⟨hle,.nil,fun t ht=>(nomatch ht),fun j h1 h2 t ht=>.inl (z19w (hT j h1 h2) ht)⟩
 unfold z4u
 simp only []
 cases hb0:Nat.blt (zb1 E all 0) (z47 (z15 all []) 0)
 ·exact base
 ·simp only [yi]
  have hb0:zb1 E all 0<z47 (z15 all []) 0:=y19 hb0
  generalize hz:((List.range all.length).filter fun t=>(List.range all.length).any fun j=>Nat.ble (zb1 E all 0) j&&(Nat.blt t j&&!Nat.testBit ((z15 all []).getD j 0) t))=z
  cases hb:(z56 0 all&&(Region.noSelect all.toArray&&z.all (fun i=>(match all[i]? with | some o=>z9i o&&(Nat.ble (zb1 E all 0) i||ztg z o) | none=>false)&&Region.free .any all.toArray (zb0 all.length z (zb1 E all 0) i) i)))
  ·exact base
  ·simp only [yi]
   simp only [yh] at hb
   obtain ⟨_,h2,h3⟩:=hb
   refine ⟨by omega,hz▸y61 List.filter_sublist List.pairwise_lt_range,fun t ht=>?_,fun j hj hl t ht=>?_⟩
   ·have h4:=y17.1 h3 t ht
    simp only [yh] at h4
    refine ⟨h2,?_,h4.2⟩
    cases ho:all[t]? with
    | none=>rw [ho] at h4; cases h4.1
    | some o =>
     rw [ho] at h4
     simp only [yh,y2x] at h4
     refine ⟨o,rfl,h4.1.1,fun htm e he hb=>?_⟩
     rcases h4.1.2 with h5 | h5
     ·exact absurd (y19 h5) (by omega)
     ·have:=y17.1 h5 e he
      rw [hb] at this
      simpa using this
   ·cases hq:((z15 all []).getD j 0).testBit t with
    | true=>exact .inl rfl
    | false =>
     refine .inr ?_
     rw [← hz,y2n,y1a]
     refine ⟨by omega,y3h.2 ⟨j,y1a.2 hl,?_⟩⟩
     rw [hq,y32 hj,show Nat.blt t j=true from y32 ht]; rfl

theorem zvq [Glob P] {R0:Type} {res:R0} (T:zh P E.ti=true) (EQ:z2f P E) (S:SpecOK P E w0 O) (K:z38 P E w0 O) {all:List Oper} {m n:Nat} {base σ':St} {outs:List Out} (F:FreeP E all m base outs) (hc:Chars base all outs m σ') {Z:List Nat}
  (hZ:∀ t∈Z,ZOK all m Z t)
  (hT:TOK all m Z) (hB:∀ o∈all,∀ d,o.dst=some d→d<n) {k:St→Option R0} {Q:Exit→Act→World→Prop} (hQ:z1x E w0 ok O res n k (Q .normal)) (hQp:∀ c a w,¬ Q (.panic c) a w)
  (hk:zda E all m (all.drop m) (σ'.promAll E) k=some res) :
  ∀ (zs ds:List Nat) (fuel:Nat) (L:Array Bool) (σD:St) (a:Act) (w:World) (M:Map),zs.Pairwise (·<·)→(∀ t∈zs,t∉ds)→ds.Nodup→(∀ t∈zs,t∈Z∧t<m)→(∀ t∈ds,t∈Z∧t<m)→(∀ t∈Z,t<m→t∈ds∨t∈zs)→zjs all (·∈ds)→L.size=all.length→(∀ t,L.getD t false=true↔t∈ds)→all.length=fuel+ds.length→Done base all outs (·∈ds) σD →
   Rep E w0 ok O σD a.tmps w M→a.tmps.size=n→a.defers=[]→wpAny P .any all.toArray Q fuel L a w
 | [],ds,fuel,L,σD,a,w,M,hpw,hzd,hnd,hzs,hds,hall,hcl,hs,hL,hf,hD,R,hn,hd =>
  z1a7 T EQ S K F hc hZ hT hB hQ hQp hk fuel ds L σD a w M hs hL hnd (fun t ht=>(hds t ht).2) (fun t ht htm=>(hall t ht htm).resolve_right (by simp)) (by omega) hcl hD R hn hd
 | z::zs,ds,fuel,L,σD,a,w,M,hpw,hzds,hnd,hzs,hds,hall,hcl,hs,hL,hf,hD,R,hn,hd=>by
  obtain ⟨hzZ,hzm⟩:=hzs z (by simp)
  obtain ⟨hsel,⟨o,ho,hm,haft⟩,hfree⟩:=hZ z hzZ
  obtain ⟨hg,_⟩:=zju hm
  have haft:=haft hzm
  have hpw2:=List.pairwise_cons.1 hpw
  have hzd:z∉ds:=hzds z (by simp)
  have hzl:z<all.length:=y3k hzm F.le
  -- what comes ahead of z is done
  have hback:∀ t∈Z,t<z→t∈ds:=fun t ht hlt=>by
   rcases hall t ht (by omega) with h | h
   ·exact h
   ·rcases yx.1 h with rfl | h
    ·omega
    ·have:=hpw2.1 t h
     omega
  have hafter:∀ e∈o.after.toList,Region.binds .any e=true→e.on∈ds:=fun e he hb=>hback _ (haft e he hb) (by have:=zdv F.edges z o ho e he hb; omega)
  obtain ⟨fuel,rfl⟩:∃ f,fuel=f+1:=by
   refine ⟨fuel-1,?_⟩
   have:=zhh all.length (z::ds) (y1x.2 ⟨hzd,hnd⟩) (fun x hx=>by
    rcases yx.1 hx with rfl | hx
    ·exact hzl
    ·exact y3k (hds x hx).2 F.le)
   simp only [y1k] at this
   omega
  have hoa:all.toArray[z]?=some o:=by simpa using ho
  obtain ⟨σj,o',x,h1,hx,htr,hcj⟩:=F.at_ z hzm
  rw [ho] at h1; cases h1
  have hle:Le (σj.hide (z3c all ((z15 all []).getD z 0) z)) σD:=zvg F hD hzm (zqg F.edges hcl z o ho hafter) hcj
  have hpu:zw E σD o=some x:=by
   rcases htr with ⟨_,hpu,_⟩ | ⟨hw,_⟩
   ·exact ztl hle hpu
   ·simp only [z45,hg] at hw
    cases hw
  obtain ⟨v,u,rfl,hrun,hu2,hlv⟩:=zvk R T EQ hm hpu
  have hin:inB o.dst a.tmps:=fun d hd=>by rw [hn]; exact hB o (ym ho) d hd
  have hY:Yields P all.toArray o u a:=.inl ⟨by unfold Region.wanted; rw [hg],hrun⟩
  refine wpAny_first hoa (Region.noSelect_spec hsel) (fun c a w h=>absurd h (hQp c _ w)) fuel L a w (fun j oj hj hji hun hno=>?_) ?_ hY ?_
  ·have hjl:j<all.length:=by
    have:=(y1s.1 hj).1
    simpa using this
   refine Region.free_spec hoa hfree j oj hj hji ?_ hno
   have hjd:j∉ds:=fun h=>by
    have:=(hL j).2 h
    rw [z9v (by omega)] at hun
    rw [this] at hun; cases hun
   have:(zb0 all.length Z m z).getD j true=(Nat.blt j z&&(Nat.ble m z||Z.any (Nat.beq j))):=by
    simp [zb0,y3a,hjl]
   rw [this]
   have hmz:Nat.ble m z=false:=by
    cases hq:Nat.ble m z with
    | false=>rfl
    | true=>exact absurd (y19 hq) (by omega)
   rw [hmz,y3v]
   cases h2:Nat.blt j z with
   | false=>rfl
   | true =>
    cases h1:Z.any (Nat.beq j) with
    | false=>rfl
    | true =>
     have hjZ:j∈Z:=by simpa using h1
     exact absurd (hback j hjZ (y19 h2)) hjd
  ·refine zdw.2 ⟨hzl,?_,fun o2 ho2 e he hb=>?_⟩
   ·rw [z9v (by omega)]
    cases hq:L.getD z false with
    | false=>rfl
    | true=>exact absurd ((hL z).1 hq) hzd
   ·rw [ho] at ho2; cases ho2
    exact (hL _).2 (hafter e he hb)
  ·have hD1:=Done.step F hD (fun t ht=>(hds t ht).2) hzm ho hx ⟨fun k ⟨r,hr⟩=>(nomatch hr),fun k ⟨r,hr⟩=>(nomatch hr)⟩
   have hD2:Done base all outs (·∈z::ds) (z4y σD o (v,[],[])):=by
    have e:(fun t=>t=z∨t∈ds)=(·∈z::ds):=by funext t; simp
    rw [← e]; exact hD1
   refine zvq T EQ S K F hc hZ hT hB hQ hQp hk zs (z::ds) fuel _ (z4y σD o (v,[],[])) (a.put o.dst u) w M hpw2.2 (fun t ht=>?_) (List.nodup_cons.2 ⟨hzd,hnd⟩) (fun t ht=>hzs t (List.mem_cons_of_mem _ ht)) (fun t ht=>?_) (fun t ht htm=>?_) (fun j oj hj hoj e he hb=>?_) (by simpa using hs) (fun t=>?_) (by simp only [List.length_cons]; omega) hD2 ?_ (by rw [z1u,z4b,hn]) (by rw [z4v]; exact hd)
   ·intro h
    rcases yx.1 h with rfl | h
    ·exact y23 _ (hpw2.1 _ ht)
    ·exact hzds t (y27 _ ht) h
   ·rcases yx.1 ht with rfl | ht
    ·exact hzs _ (by simp)
    ·exact hds t ht
   ·rcases hall t ht htm with h | h
    ·exact .inl (y27 _ h)
    ·rcases yx.1 h with rfl | h
     ·exact .inl (by simp)
     ·exact .inr h
   ·rcases yx.1 hj with rfl | hj
    ·rw [ho] at hoj; cases hoj
     exact y27 _ (hafter e he hb)
    ·exact y27 _ (hcl j oj hj hoj e he hb)
   ·rw [zqi (by omega),hL t]; simp
   ·rw [z1u]
    exact R.putV hu2 hlv hin

theorem z1a9 [Glob P] {R0:Type} {res:R0} (T:zh P E.ti=true) (EQ:z2f P E) (S:SpecOK P E w0 O) (K:z38 P E w0 O) (hmix:P.follows .mixedOrders=true) {all:List Oper} {n id:Nat} (hB:∀ o∈all,∀ d,o.dst=some d→d<n) {k:St→Option R0} {Q:Exit→Act→World→Prop} (hQ:z1x E w0 ok O res n k (Q .normal))
  {σ:St} {a:Act} {w:World} {M:Map} (h:zpm E all σ k=some res) (R:Rep E w0 ok O σ a.tmps w M) (hn:a.tmps.size=n) (hd:a.defers=[]):(Code.region id all.toArray true).wp P Q a w:=by
 unfold zpm at h
 simp only [] at h
 split at h
 ·rename_i ds hds
  cases hb:(z4r ds&&z56 0 all) <;> rw [hb] at h
  ·cases h
  ·simp only [yh] at hb
   have hnd:=ztp hb.1
   simp only [yi] at h
   obtain ⟨outs,σ',g1,g2,g3,g4⟩:=zqd _ _ _ _ h
   obtain ⟨t1,t2⟩:=z19t g1
   obtain ⟨d1,d2⟩:=zvp hds
   obtain ⟨pr,pr1,pr2⟩:=zqe all []
   have hlen:(z15 all []).length=all.length:=by rw [pr1]; simp [pr2]
   have hfl:∀ (ps:List Nat) (i:Nat),z47 ps i≤ps.length:=by
    intro ps
    induction ps with
    | nil=>intro i; exact yr _
    | cons p ps ih =>
     intro i
     simp only [z47]
     have:=ih (i+1)
     split
     ·cases zaz i p <;> simp
     ·rename_i n hn; rw [hn] at this; simp; omega
   have hmle:z47 (z15 all []) 0≤all.length:=by rw [← hlen]; exact hfl _ _
   have hT:∀ j,z47 (z15 all []) 0≤j→j<all.length→zaz j ((z15 all []).getD j 0)=true:=by
    intro j hj hlt
    have hget:(z15 all [])[j]?=some (z15 all [])[j]:=yj (by omega)
    have:=zqf (z15 all []) 0 j _ hj hget
    rw [y18] at this
    rw [y16,hget]; exact this
   obtain ⟨hmle,hznd,hZ,hT⟩:=z1a8 (E:=E) hmle hT
   have hplen:((z15 all []).take (z4u E all (z15 all [])).1).length=(z4u E all (z15 all [])).1:=by rw [y1c,hlen]; omega
   rw [hplen] at g2 g3 g4
   rw [y18] at g4
   have hdtake:ds.length=(z4u E all (z15 all [])).1:=by rw [d1,y1c]; omega
   have F:FreeP E all (z4u E all (z15 all [])).1 (σ.hideS ds) outs:=by
    refine ⟨g2,hmle,hb.2,fun j o hj ho=>?_,fun i j o o' d hi hj ho ho' hd hd'=>?_,fun j hj=>?_⟩
    ·obtain ⟨d,e1,e2⟩:=d2 j o (by rw [y1n hj]; exact ho)
     refine ⟨d,e1,?_⟩
     show lk (σ.sl.filter (fun x=>!(ds.any (Nat.beq x.1)))) d=none
     rw [zba (fun n=>!(ds.any (Nat.beq n))),y5 (fun hh=>zjr.1 hh (ym e2))]
    ·obtain ⟨d3,e1,e2⟩:=d2 i o (by rw [y1n hi]; exact ho)
     obtain ⟨d4,e3,e4⟩:=d2 j o' (by rw [y1n hj]; exact ho')
     rw [hd] at e1; rw [hd'] at e3
     cases e1; cases e3
     have hi':i<ds.length:=by omega
     have hj':j<ds.length:=by omega
     have:=(yo.1 e2).2.trans (yo.1 e4).2.symm
     exact zqh hnd hi' hj' this
    ·obtain ⟨σj,o,x,p,h1,h2,h3,h4,h5⟩:=t1 j (by rw [g2]; exact hj)
     rw [y18] at h4
     have:(z15 all []).getD j 0=p:=by
      rw [y1n hj] at h3
      rw [y16,h3]; rfl
     rw [this]
     exact ⟨σj,o,x,h1,h2,h4,h5⟩
   have R1:Rep E w0 ok O (σ.hideS ds) a.tmps { w with drawn:=w.drawn+1 } M:=by
    refine Rep.world (w:=w) ?_ rfl rfl rfl rfl
    refine R.fewer (sl:=σ.sl.filter (fun x=>!(ds.any (Nat.beq x.1)))) fun s v h=>?_
    rw [zba (fun n=>!(ds.any (Nat.beq n)))] at h
    split at h
    ·exact h
    ·cases h
   rw [g2] at t2
   refine Code.wp_mono (Q:=fun e a w=>(∀ c,e≠.panic c)∧Q e a w) (fun e a w h=>h.2) ?_
   refine wp_region_any hmix ?_
   have hD0:Done (σ.hideS ds) all outs (·∈([]:List Nat)) (σ.hideS ds) :=
    ⟨fun _ _ h=>h,fun j o x d hj=>absurd hj (by simp),fun _ _ h=>h,fun j x i r hj=>absurd hj (by simp),fun _ _ h=>h,fun j x i r hj=>absurd hj (by simp),fun _ _ h=>.inl h,fun _ _ h=>.inl h⟩
   refine zvq T EQ S K F t2 hZ hT hB (fun _ _ _ hc σ a w M h1 h2 h3 h4=>⟨fun c hh=>(nomatch hh),hQ _ _ _ hc σ a w M h1 h2 h3 h4⟩) (fun c a w h=>h.1 c rfl) g4 ((z4u E all (z15 all [])).2.filter fun t=>Nat.blt t (z4u E all (z15 all [])).1) [] all.toArray.size (Array.replicate all.toArray.size false) (σ.hideS ds) a _ M (y61 List.filter_sublist hznd) (fun t _=>by simp) y3n (fun t ht=>⟨(y2n.1 ht).1,y19 (y2n.1 ht).2⟩) (fun t ht=>(nomatch ht)) (fun t ht htm=>.inr (y2n.2 ⟨ht,y32 htm⟩)) (fun j o hj=>(nomatch hj)) (by simp) (fun t=>by
    simp only [y3a,Array.getElem?_replicate]
    split <;> simp) (by simp) hD0 R1 hn hd
 ·cases h
end

theorem zbb:∀ (l:List Nat) (i n:Nat),i∈l→∃ k,zd4 i l n=n+k∧l[k]?=some i
 | [],i,n,h=>by cases h
 | j::l,i,n,h=>by
  simp only [zd4,z4x]
  by_cases hij:i=j
  ·subst hij; exact ⟨0,by simp,rfl⟩
  ·simp only [hij,yf,yn]
   obtain ⟨k,h1,h2⟩:=zbb l i (n+1) ((yx.1 h).resolve_left hij)
   exact ⟨k+1,by rw [h1]; omega,h2⟩
theorem zdx:∀ (l acc:List Nat) (i:Nat),i∈l∨i∈acc→i∈z4s l acc
 | [],acc,i,h=>by simp [z4s]; simpa using h
 | j::l,acc,i,h=>by
  simp only [z4s]
  cases hb:acc.any (Nat.beq j)
  ·simp only [yn]
   refine zdx l _ i ?_
   rcases h with h | h
   ·rcases yx.1 h with rfl | h
    ·exact .inr (by simp)
    ·exact .inl h
   ·exact .inr (by simp [h])
  ·simp only [yi]
   refine zdx l _ i ?_
   rcases h with h | h
   ·rcases yx.1 h with rfl | h
    ·obtain ⟨x,hx,hb⟩:=y3h.1 hb
     rw [yq hb]; exact .inr hx
    ·exact .inl h
   ·exact .inr h
theorem z1aa {ids:List Nat} (hl:ids.length<1000) {i j:Nat} (hi:i∈ids) (hj:j∈ids) (h:z49 ids i=z49 ids j):i=j:=by
 have key:∀ i,i∈ids→i<PIN→z49 ids i<PIN∧∃ k,z49 ids i=NB+k∧ids[k]?=some i:=by
  intro i hi hp
  obtain ⟨k,h1,h2⟩:=zbb ids i 0 hi
  have hb:Nat.blt i PIN=true:=y32 hp
  have e:z49 ids i=NB+k:=by simp only [z49,hb,yi,h1,y18]
  have hk:=(yo.1 h2).1
  refine ⟨?_,k,e,h2⟩
  rw [e]; simp only [NB,PIN]; omega
 have big:∀ i,¬ i<PIN→z49 ids i=i:=by
  intro i hp
  have hb:Nat.blt i PIN=false:=by
   cases hq:Nat.blt i PIN with
   | false=>rfl
   | true=>exact absurd (y19 hq) hp
  simp only [z49,hb,yn]
 by_cases h1:i<PIN <;> by_cases h2:j<PIN
 ·obtain ⟨_,k,e1,e2⟩:=key i hi h1
  obtain ⟨_,k',e3,e4⟩:=key j hj h2
  have:k=k':=by omega
  subst this
  rw [e2] at e4
  exact y28 e4
 ·have:=(key i hi h1).1
  rw [h,big j h2] at this; omega
 ·have:=(key j hj h2).1
  rw [← h,big i h1] at this; omega
 ·rw [big i h1,big j h2] at h; exact h
theorem z1ab {ids:List Nat} (hl:ids.length<1000) {i:Nat} (hi:i∈ids) (h:PIN≤z49 ids i):z49 ids i=i:=by
 by_cases h1:i<PIN
 ·exfalso
  obtain ⟨k,h2,h3⟩:=zbb ids i 0 hi
  have hb:Nat.blt i PIN=true:=y32 h1
  have e:z49 ids i=NB+k:=by simp only [z49,hb,yi,h2,y18]
  have hk:=(yo.1 h3).1
  rw [e] at h
  simp only [NB,PIN] at h
  omega
 ·have hb:Nat.blt i PIN=false:=by
   cases hq:Nat.blt i PIN with
   | false=>rfl
   | true=>exact absurd (y19 hq) h1
  simp only [z49,hb,yn]

theorem zdy (f:Nat→Nat) (s:SV):(s.ren f).roots=s.roots.map f∧(s.ren f).boxes=s.boxes∧(s.ren f).isSt=s.isSt∧(s.ren f).count=s.count∧(s.ren f).isCh=s.isCh:=by
 induction s with
 | st s ih=>exact ⟨ih.1,ih.2.1,rfl,rfl,rfl⟩
 | pr a b iha ihb=>exact ⟨by simp [SV.ren,SV.roots,iha.1,ihb.1],by simp [SV.ren,SV.boxes,iha.2.1,ihb.2.1],rfl,rfl,rfl⟩
 | clo g s ih=>exact ⟨ih.1,ih.2.1,rfl,rfl,rfl⟩
 | tup s ih=>exact ⟨ih.1,ih.2.1,rfl,rfl,rfl⟩
 | cns a b iha ihb=>exact ⟨by simp [SV.ren,SV.roots,iha.1,ihb.1],by simp [SV.ren,SV.boxes,iha.2.1,ihb.2.1],rfl,by simp [SV.ren,SV.count,ihb.2.2.2.1],rfl⟩
 | val t x=>cases t <;> exact ⟨rfl,rfl,rfl,rfl,rfl⟩
 | _=>exact ⟨rfl,rfl,rfl,rfl,rfl⟩

section
variable {P : Program} {E : Env} {w0 : World} {ok O : Nat → Prop} {σ σ' : St} {tm : Array Value} {w w' : World} {M M' : Map} {a : Act}

structure Renm (M M':Map) (f:Nat→Nat) (ids:List Nat):Prop where
 loc:∀ i∈ids,M'.loc (f i)=M.loc i
 blk:M'.blk=M.blk
 bn:M'.bn=M.bn
 bw:M'.bw=M.bw
theorem z3v {f:Nat→Nat} {ids:List Nat} (H:Renm M M' f ids):∀ {s:SV} {cs:List Value},(∀ i∈s.roots,i∈ids)→zc w0 ok M s cs→zc w0 ok M' (s.ren f) cs
 | .val t x,cs,h,hs=>by cases t <;> exact hs
 | .ref i p,cs,h,hs=>by
  have e:=H.loc i (h i (by simp [SV.roots]))
  simp only [SV.ren,zc] at hs ⊢
  rw [e]; exact hs
 | .vw i lo n,cs,h,hs=>by
  have e:=H.loc i (h i (by simp [SV.roots]))
  simp only [SV.ren,zc] at hs ⊢
  rw [e]; exact hs
 | .ls i,cs,h,hs=>by simp only [SV.ren,zc,H.blk,H.bn] at hs ⊢; exact hs
 | .st s,cs,h,hs=>z3v H (s:=s) h hs
 | .pr a b,cs,h,hs=>by
  obtain ⟨c1,c2,rfl,h1,h2⟩:=hs
  exact ⟨c1,c2,rfl,z3v H (fun i hi=>h i (by simp [SV.roots,hi])) h1,z3v H (fun i hi=>h i (by simp [SV.roots,hi])) h2⟩
 | .bp i p o,cs,h,hs=>by simp only [SV.ren,zc,H.blk] at hs ⊢; exact hs
 | .ep i p n f' o,cs,h,hs=>by
  have e:=H.loc i (h i (by simp [SV.roots]))
  simp only [SV.ren,zc] at hs ⊢
  rw [e]; exact hs
 | .lp i n,cs,h,hs=>by simp only [SV.ren,zc,H.blk,H.bn,H.bw] at hs ⊢; exact hs
 | .clo g c,cs,h,hs=>by
  obtain ⟨caps,rfl,h1⟩:=hs
  exact ⟨caps,rfl,z3v H (s:=c) h h1⟩
 | .no,cs,h,hs=>hs
 | .un,cs,h,hs=>hs
 | .tup _,_,_,h=>h.elim
 | .cns _ _,_,_,h=>h.elim
 | .nl,_,_,h=>h.elim
theorem z1ac {f:Nat→Nat} {ids:List Nat} (H:Renm M M' f ids) {s:SV}:∀ {cs:List Value},(∀ i∈s.roots,i∈ids)→z1m w0 ok M s cs→z1m w0 ok M' (s.ren f) cs:=by
 induction s with
 | cns a b iha ihb =>
  intro cs h hs
  obtain ⟨c1,c2,rfl,h1,h2⟩:=hs
  exact ⟨c1,c2,rfl,z3v H (fun i hi=>h i (by simp [SV.roots,hi])) h1,ihb (fun i hi=>h i (by simp [SV.roots,hi])) h2⟩
 | nl=>intro cs h hs; exact hs
 | val t x=>intro cs h hs; exact z13 (z3v H h hs)
 | ref i p=>intro cs h hs; exact z13 (z3v H h hs)
 | vw i lo n=>intro cs h hs; exact z13 (z3v H h hs)
 | ls i=>intro cs h hs; exact z13 (z3v H h hs)
 | st s _=>intro cs h hs; exact z13 (z3v H (s:=.st s) h hs)
 | pr a b _ _=>intro cs h hs; exact z13 (z3v H (s:=.pr a b) h hs)
 | bp i p o=>intro cs h hs; exact z13 (z3v H h hs)
 | ep i p n f o=>intro cs h hs; exact z13 (z3v H h hs)
 | lp i n=>intro cs h hs; exact z13 (z3v H h hs)
 | clo g s _=>intro cs h hs; exact z13 (z3v H (s:=.clo g s) h hs)
 | no=>intro cs h hs; exact hs
 | un=>intro cs h hs; exact hs
 | tup s _=>intro cs h hs; exact hs.elim
theorem z1ad {f:Nat→Nat} {ids:List Nat} (H:Renm M M' f ids) {s:SV}:∀ {vs:List Value},(∀ i∈s.roots,i∈ids)→z2h w0 ok M s vs→z2h w0 ok M' (s.ren f) vs:=by
 induction s with
 | cns a b iha ihb =>
  intro vs h hs
  obtain ⟨v,vs',rfl,⟨cs,h1,h3⟩,h2⟩:=hs
  exact ⟨v,vs',rfl,⟨cs,z3v H (fun i hi=>h i (by simp [SV.roots,hi])) h1,by rw [(zdy f a).2.2.1]; exact h3⟩,ihb (fun i hi=>h i (by simp [SV.roots,hi])) h2⟩
 | nl=>intro vs h hs; exact hs
 | _=>intro vs h hs; exact hs.elim
theorem z1ae {f:Nat→Nat} {ids:List Nat} (H:Renm M M' f ids) {s:SV} {v:Value} (h:∀ i∈s.roots,i∈ids) (hs:zr w0 ok M s v):zr w0 ok M' (s.ren f) v:=by
 rcases z35 hs with rfl | ⟨c,vs,rfl,rfl,h1⟩ | ⟨cs,h1,h2⟩
 ·trivial
 ·exact ⟨vs,rfl,z1ad H h h1⟩
 ·exact z1t (z3v H h h1) (by unfold z2s; rw [(zdy f s).2.2.1]; exact h2)

theorem zjx {rows:List (Nat×Row)} {f:Nat→Nat}:∀ {l:List Nat} {j:Nat} {r:Row},lk (z6l rows f l) j=some r→∃ i∈l,f i=j∧lk rows i=some r
 | [],j,r,h=>by cases h
 | i::l,j,r,h=>by
  simp only [z6l] at h
  split at h
  ·rename_i r' hr
   rw [zu] at h
   split at h
   ·rename_i e; cases h; exact ⟨i,by simp,e,hr⟩
   ·obtain ⟨i',h1,h2⟩:=zjx h; exact ⟨i',by simp [h1],h2⟩
  ·obtain ⟨i',h1,h2⟩:=zjx h; exact ⟨i',by simp [h1],h2⟩
theorem zvr {rows:List (Nat×Row)} {f:Nat→Nat}:∀ {l:List Nat} {i:Nat} {r:Row},i∈l→lk rows i=some r→∃ r',lk (z6l rows f l) (f i)=some r'
 | [],i,r,h,_=>by cases h
 | j::l,i,r,h,hr=>by
  simp only [z6l]
  by_cases hij:i=j
  ·subst hij; rw [hr]; exact ⟨r,z5q _ _ _⟩
  ·obtain ⟨r',hr'⟩:=zvr (f:=f) ((yx.1 h).resolve_left hij) hr
   split
   ·rw [zu]; split; exact ⟨_,rfl⟩; exact ⟨r',hr'⟩
   ·exact ⟨r',hr'⟩

theorem Rep.ren (R:Rep E w0 ok O σ tm w M) {f:Nat→Nat} {ids:List Nat} (hS:∀ s v,lk σ.sl s=some v→∀ i∈v.roots,i∈ids) (hB:∀ j b,lk σ.bx j=some b→∀ i∈b.c.roots,i∈ids) (hinj:∀ i j,i∈ids→j∈ids→f i=f j→i=j) (hpin:∀ i∈ids,PIN≤f i→f i=i) :
  ∃ M',Rep E w0 ok O ⟨z14 (SV.ren f) σ.sl,z6l σ.rows f ids,z14 (fun b=>⟨b.ty,b.c.ren f⟩) σ.bx⟩ tm w M':=by
 let g:Nat→Loc:=fun j=>match ids.find? (fun i=>Nat.beq (f i) j) with | some i=>M.loc i | none=>M.loc j
 have hg:∀ i∈ids,g (f i)=M.loc i:=by
  intro i hi
  show (match ids.find? (fun k=>Nat.beq (f k) (f i)) with | some i=>M.loc i | none=>M.loc (f i))=M.loc i
  cases hq:ids.find? (fun k=>Nat.beq (f k) (f i)) with
  | none=>have:=y5l.1 hq i hi; simp at this
  | some k =>
   have h1:=y4f hq
   have h2:f k=f i:=by have:=y4g hq; exact yq this
   rw [hinj k i h1 hi h2]
 have H:Renm M { M with loc:=g } f ids:=⟨hg,rfl,rfl,rfl⟩
 have hrow:∀ j,(∃ r,lk (z6l σ.rows f ids) j=some r)→∃ i∈ids,f i=j∧∃ r,lk σ.rows i=some r:=fun j ⟨r,hr⟩=>by
  obtain ⟨i,h1,h2,h3⟩:=zjx hr; exact ⟨i,h1,h2,r,h3⟩
 have hbx:∀ j b,lk (z14 (fun b:Bx=>(⟨b.ty,b.c.ren f⟩:Bx)) σ.bx) j=some b→∃ u,lk σ.bx j=some u∧b=⟨u.ty,u.c.ren f⟩:=fun j b h=>by
  rw [z2c] at h
  obtain ⟨u,h1,rfl⟩:=y10.1 h
  exact ⟨u,h1,rfl⟩
 have hbx1:∀ j,(∃ b,lk (z14 (fun b:Bx=>(⟨b.ty,b.c.ren f⟩:Bx)) σ.bx) j=some b)→∃ b,lk σ.bx j=some b:=fun j ⟨b,h⟩=>by
  obtain ⟨u,h1,_⟩:=hbx j b h; exact ⟨u,h1⟩
 have live:∀ u,Live σ u→(∀ i∈u.roots,i∈ids)→Live ⟨z14 (SV.ren f) σ.sl,z6l σ.rows f ids,z14 (fun b=>⟨b.ty,b.c.ren f⟩) σ.bx⟩ (u.ren f):=fun u hu hin=>⟨fun j hj=>by
   rw [(zdy f u).1] at hj
   obtain ⟨i,hi,rfl⟩:=y1f.1 hj
   obtain ⟨r,hr⟩:=hu.rows i hi
   exact zvr (hin i hi) hr,fun j hj=>by
   rw [(zdy f u).2.1] at hj
   obtain ⟨b,hb⟩:=hu.boxes j hj
   exact ⟨_,by show lk (z14 _ σ.bx) j=_; rw [z2c,hb]; rfl⟩⟩
 refine ⟨{ M with loc:=g },?_⟩
 constructor
 ·intro s v h
  have h:lk (z14 (SV.ren f) σ.sl) s=some v:=h
  rw [z2c] at h
  obtain ⟨u,h1,rfl⟩:=y10.1 h
  obtain ⟨z,h2,h3⟩:=R.slots s u h1
  exact ⟨z,h2,z1ae H (hS s u h1) h3⟩
 ·intro j r h
  obtain ⟨i,h1,rfl,h3⟩:=zjx h
  obtain ⟨l,e1,e2⟩:=R.rows i r h3
  exact ⟨l,(hg i h1).trans e1,e2⟩
 ·intro j b h
  obtain ⟨u,h1,rfl⟩:=hbx j b h
  obtain ⟨cs,h2,h3,h4⟩:=R.boxes j u h1
  exact ⟨cs,z1ac H (hB j u h1) h2,h3,fun hc=>by
   rw [(zdy f u.c).2.2.2.2] at hc
   rw [(zdy f u.c).2.2.2.1]
   exact h4 hc⟩
 ·intro i j hij hi hj k hk
  obtain ⟨i',i1,rfl,i3⟩:=hrow i hi
  obtain ⟨j',j1,rfl,j3⟩:=hrow j hj
  show k∉z7 (g (f j')).1 (g (f j')).2
  have hk:k∈z7 (g (f i')).1 (g (f i')).2:=hk
  rw [hg i' i1] at hk
  rw [hg j' j1]
  exact R.rr i' j' (fun e=>hij (by rw [e])) i3 j3 k hk
 ·exact fun i j hij hi hj=>R.bb i j hij (hbx1 i hi) (hbx1 j hj)
 ·intro i j hi hj
  obtain ⟨i',i1,rfl,i3⟩:=hrow i hi
  show M.blk j∉z7 (g (f i')).1 (g (f i')).2
  rw [hg i' i1]
  exact R.rb i' j i3 (hbx1 j hj)
 ·intro i hi k hk
  obtain ⟨i',i1,rfl,i3⟩:=hrow i hi
  have hk:k∈z7 (g (f i')).1 (g (f i')).2:=hk
  rw [hg i' i1] at hk
  exact R.ownR i' i3 k hk
 ·exact fun i hi=>R.ownB i (hbx1 i hi)
 ·exact R.okB
 ·intro s v h
  have h:lk (z14 (SV.ren f) σ.sl) s=some v:=h
  rw [z2c] at h
  obtain ⟨u,h1,rfl⟩:=y10.1 h
  exact live u (R.liveS s u h1) (hS s u h1)
 ·intro j b h
  obtain ⟨u,h1,rfl⟩:=hbx j b h
  exact live u.c (R.liveB j u h1) (hB j u h1)
 ·exact R.kept
 ·intro i hi hr
  obtain ⟨i',i1,rfl,i3⟩:=hrow i hr
  show za (g (f i')).1 (g (f i')).2=_
  rw [hg i' i1]
  have e:=hpin i' i1 hi
  rw [e] at hi ⊢
  exact R.pin i' hi i3
 ·exact fun i hi hq=>R.pinB i hi (hbx1 i hq)

theorem zdz {sl:List (Nat×SV)}:∀ {L:List Nat} {s:Nat} {v:SV},lk (z66 sl L) s=some v→lk sl s=some v
 | [],s,v,h=>by cases h
 | i::L,s,v,h=>by
  simp only [z66] at h
  split at h
  ·rename_i u hu
   rw [zu] at h
   split at h
   ·rename_i e; subst e; cases h; exact hu
   ·exact zdz h
  ·exact zdz h
theorem ze0 {bx:List (Nat×Bx)}:∀ {L:List Nat} {s:Nat} {v:Bx},lk (z57 bx L) s=some v→s∈L∧lk bx s=some v
 | [],s,v,h=>by cases h
 | i::L,s,v,h=>by
  simp only [z57] at h
  split at h
  ·rename_i u hu
   rw [zu] at h
   split at h
   ·rename_i e; subst e; cases h; exact ⟨by simp,hu⟩
   ·obtain ⟨h1,h2⟩:=ze0 h; exact ⟨by simp [h1],h2⟩
  ·obtain ⟨h1,h2⟩:=ze0 h; exact ⟨by simp [h1],h2⟩
theorem zqj {bx:List (Nat×Bx)}:∀ {L:List Nat} {s:Nat} {v:Bx},s∈L→lk bx s=some v→∃ v',lk (z57 bx L) s=some v'
 | [],s,v,h,_=>by cases h
 | i::L,s,v,h,hv=>by
  simp only [z57]
  by_cases e:s=i
  ·subst e; rw [hv]; exact ⟨v,z5q _ _ _⟩
  ·obtain ⟨v',h'⟩:=zqj ((yx.1 h).resolve_left e) hv
   split
   ·rw [zu]; split; exact ⟨_,rfl⟩; exact ⟨v',h'⟩
   ·exact ⟨v',h'⟩

theorem zvs (l:List Nat):∀ {σ:St} {j:Nat},(∃ b,lk (l.foldl St.dropB σ).bx j=some b)→j∉l∧∃ b,lk σ.bx j=some b:=by
 induction l with
 | nil=>intro σ j h; exact ⟨by simp,h⟩
 | cons i l ih =>
  intro σ j h
  obtain ⟨h1,b,h2⟩:=ih (σ:=σ.dropB i) h
  refine ⟨?_,(Sub.dropB σ i).bx j b h2⟩
  simp only [yx,not_or]
  exact ⟨zjh ⟨b,h2⟩,h1⟩

theorem z1af (R:Rep E w0 ok O σ tm w M) (L B:List Nat):∃ M',Rep E w0 ok O (σ.norm L B) tm w M':=by
 have R1:=R.dropsB (σ.bx.filterMap (fun x=>bif B.any (Nat.beq x.1) then none else some x.1))
 have hin:∀ j,(∃ b,lk ((σ.bx.filterMap (fun x=>bif B.any (Nat.beq x.1) then none else some x.1)).foldl St.dropB σ).bx j=some b)→j∈B:=by
  intro j hj
  obtain ⟨h1,b,h2⟩:=zvs _ hj
  refine y2m fun hn=>h1 (y5h.2 ⟨(j,b),z19 h2,?_⟩)
  have:B.any (Nat.beq j)=false:=by
   cases hq:B.any (Nat.beq j) with
   | false=>rfl
   | true =>
    obtain ⟨x,hx,hb⟩:=y3h.1 hq
    exact absurd (yq hb▸hx) hn
  simp [this]
 unfold St.norm
 simp only []
 generalize (σ.bx.filterMap (fun x=>bif B.any (Nat.beq x.1) then none else some x.1)).foldl St.dropB σ=σ1 at R1 hin ⊢
 have R2:Rep E w0 ok O ⟨z66 σ1.sl L,σ1.rows,z57 σ1.bx B⟩ tm w M:=by
  have live:∀ u,Live σ1 u→Live ⟨z66 σ1.sl L,σ1.rows,z57 σ1.bx B⟩ u:=fun u hu=>⟨hu.rows,fun i hi=>by
   obtain ⟨b,hb⟩:=hu.boxes i hi
   exact zqj (hin i ⟨b,hb⟩) hb⟩
  exact R1.weaken (fun s v h=>⟨⟨v,zdz h,.same v⟩,live v (R1.liveS s v (zdz h))⟩) (fun i r h=>h) (fun i b h=>⟨⟨b,(ze0 h).2,rfl,.same _⟩,live b.c (R1.liveB i b (ze0 h).2)⟩)
 generalize hids:z4s (σ1.rows.filterMap (fun x=>bif Nat.blt x.1 PIN then none else some x.1)++((z66 σ1.sl L).flatMap (fun x=>x.2.roots)++(z57 σ1.bx B).flatMap (fun x=>x.2.c.roots))) []=ids
 cases hl:Nat.blt ids.length 1000
 ·exact ⟨M,R.weaken (fun s v h=>by cases h) (fun i r h=>by cases h) (fun i b h=>by cases h)⟩
 ·have hlen:ids.length<1000:=y19 hl
  exact R2.ren (fun s v h i hi=>by
   rw [← hids]
   exact zdx _ _ _ (.inl (yd.2 (.inr (yd.2 (.inl (y1e.2 ⟨(s,v),z19 h,hi⟩))))))) (fun j b h i hi=>by
   rw [← hids]
   exact zdx _ _ _ (.inl (yd.2 (.inr (yd.2 (.inr (y1e.2 ⟨(j,b),z19 h,hi⟩))))))) (fun i j hi hj h=>z1aa hlen hi hj h) (fun i hi h=>z1ab hlen hi h)
theorem z1ag {ids:List Nat} (hl:ids.length<1000) {i j:Nat} (hi:i∈ids) (hj:j∈ids) (h:z83 ids i=z83 ids j):i=j:=by
 obtain ⟨k,h1,h2⟩:=zbb ids i 0 hi
 obtain ⟨l,h3,h4⟩:=zbb ids j 0 hj
 unfold z83 at h
 have:k=l:=by omega
 subst this
 rw [h2] at h4
 exact y28 h4
theorem z1ah {ids:List Nat} (hl:ids.length<1000) {i:Nat} (hi:i∈ids) (h:PIN≤z83 ids i):z83 ids i=i:=by
 exfalso
 obtain ⟨k,h2,h3⟩:=zbb ids i 0 hi
 have hk:=(yo.1 h3).1
 unfold z83 at h
 simp only [NB,PIN] at h
 omega
theorem z1ai (R:Rep E w0 ok O σ tm w M) (L B:List Nat):∃ M',Rep E w0 ok O (σ.normA L B) tm w M':=by
 have R1:=R.dropsB (σ.bx.filterMap (fun x=>bif B.any (Nat.beq x.1) then none else some x.1))
 have hin:∀ j,(∃ b,lk ((σ.bx.filterMap (fun x=>bif B.any (Nat.beq x.1) then none else some x.1)).foldl St.dropB σ).bx j=some b)→j∈B:=by
  intro j hj
  obtain ⟨h1,b,h2⟩:=zvs _ hj
  refine y2m fun hn=>h1 (y5h.2 ⟨(j,b),z19 h2,?_⟩)
  have:B.any (Nat.beq j)=false:=by
   cases hq:B.any (Nat.beq j) with
   | false=>rfl
   | true =>
    obtain ⟨x,hx,hb⟩:=y3h.1 hq
    exact absurd (yq hb▸hx) hn
  simp [this]
 unfold St.normA
 simp only []
 generalize (σ.bx.filterMap (fun x=>bif B.any (Nat.beq x.1) then none else some x.1)).foldl St.dropB σ=σ1 at R1 hin ⊢
 have R2:Rep E w0 ok O ⟨z66 σ1.sl L,σ1.rows,z57 σ1.bx B⟩ tm w M:=by
  have live:∀ u,Live σ1 u→Live ⟨z66 σ1.sl L,σ1.rows,z57 σ1.bx B⟩ u:=fun u hu=>⟨hu.rows,fun i hi=>by
   obtain ⟨b,hb⟩:=hu.boxes i hi
   exact zqj (hin i ⟨b,hb⟩) hb⟩
  exact R1.weaken (fun s v h=>⟨⟨v,zdz h,.same v⟩,live v (R1.liveS s v (zdz h))⟩) (fun i r h=>h) (fun i b h=>⟨⟨b,(ze0 h).2,rfl,.same _⟩,live b.c (R1.liveB i b (ze0 h).2)⟩)
 generalize hids:z4s ((z66 σ1.sl L).flatMap (fun x=>x.2.roots)++(z57 σ1.bx B).flatMap (fun x=>x.2.c.roots)) []=ids
 cases hl:Nat.blt ids.length 1000
 ·exact ⟨M,R.weaken (fun s v h=>by cases h) (fun i r h=>by cases h) (fun i b h=>by cases h)⟩
 ·have hlen:ids.length<1000:=y19 hl
  exact R2.ren (fun s v h i hi=>by
   rw [← hids]
   exact zdx _ _ _ (.inl (yd.2 (.inl (y1e.2 ⟨(s,v),z19 h,hi⟩))))) (fun j b h i hi=>by
   rw [← hids]
   exact zdx _ _ _ (.inl (yd.2 (.inr (y1e.2 ⟨(j,b),z19 h,hi⟩))))) (fun i j hi hj h=>z1ag hlen hi hj h) (fun i hi h=>z1ah hlen hi h)
end

section
variable {R0 : Type} {res : R0}

theorem zjy:∀ {p:List PK} {q:List Step} {k:PT p→Option R0},getP p q k=some res→∃ x,z9d p x=q∧k x=some res
 | [],[],k,h=>⟨(),rfl,h⟩
 | .ix::p,.ix n::q,k,h=>by
  obtain ⟨x,h1,h2⟩:=zjy (p:=p) (k:=fun x=>k (n,x)) h
  exact ⟨(n,x),by simp [z9d,h1],h2⟩
 | .f b::p,.f c::q,k,h=>by
  simp only [getP] at h
  cases hb:(b==c) <;> rw [hb] at h
  ·cases h
  ·obtain ⟨x,h1,h2⟩:=zjy (p:=p) (k:=k) h
   exact ⟨x,by simp only [z9d,h1,eq_of_beq hb],h2⟩
 | .u::p,.u::q,k,h=>by
  obtain ⟨x,h1,h2⟩:=zjy (p:=p) (k:=k) h
  exact ⟨x,by simp [z9d,h1],h2⟩
 | [],_::_,k,h=>by cases h
 | .ix::p,[],k,h=>by cases h
 | .ix::p,.f _::_,k,h=>by cases h
 | .ix::p,.u::_,k,h=>by cases h
 | .f b::p,[],k,h=>by cases h
 | .f b::p,.ix _::_,k,h=>by cases h
 | .f b::p,.u::_,k,h=>by cases h
 | .u::p,[],k,h=>by cases h
 | .u::p,.ix _::_,k,h=>by cases h
 | .u::p,.f _::_,k,h=>by cases h
theorem zvt:∀ {l m:List Bool},zgm l m=true→l=m
 | [],[],_=>rfl
 | a::l,b::m,h=>by
  simp only [zgm,yh] at h
  rw [eq_of_beq h.1,zvt h.2]
 | [],_::_,h=>by cases h
 | _::_,[],h=>by cases h
theorem ze1 {u t:Ty} {x:u.T} {k:t.T→Option R0} (h:zq u t x k=some res):∃ e:u=t,k (e▸x)=some res:=by
 unfold zq at h
 split at h
 ·rename_i e; exact ⟨e,h⟩
 ·cases h
theorem z8g:∀ {s:SK} {v:SV} {k:s.T→Option R0},s.get v k=some res→∃ x,s.fill x=v∧k x=some res
 | .val t,v,k,h=>by
  simp only [SK.get] at h
  split at h
  ·obtain ⟨e,h⟩:=ze1 h; subst e; exact ⟨_,rfl,h⟩
  ·cases h
 | .ref i p,v,k,h=>by
  simp only [SK.get] at h
  split at h
  ·rename_i j q
   cases hb:Nat.beq i j <;> rw [hb] at h
   ·cases h
   ·obtain ⟨x,h1,h2⟩:=zjy h
    exact ⟨x,by simp only [SK.fill,h1,yq hb],h2⟩
  ·cases h
 | .vw i,v,k,h=>by
  simp only [SK.get] at h
  split at h
  ·rename_i j a b
   cases hb:Nat.beq i j <;> rw [hb] at h
   ·cases h
   ·exact ⟨(a,b),by simp only [SK.fill,yq hb],h⟩
  ·cases h
 | .ls i,v,k,h=>by
  simp only [SK.get] at h
  split at h
  ·rename_i j
   cases hb:Nat.beq i j <;> rw [hb] at h
   ·cases h
   ·exact ⟨(),by simp only [SK.fill,yq hb],h⟩
  ·cases h
 | .st s,v,k,h=>by
  simp only [SK.get] at h
  split at h
  ·obtain ⟨x,h1,h2⟩:=z8g (s:=s) (k:=k) h
   exact ⟨x,by simp only [SK.fill,h1],h2⟩
  ·cases h
 | .pr a b,v,k,h=>by
  simp only [SK.get] at h
  split at h
  ·obtain ⟨x,h1,h⟩:=z8g (s:=a) h
   obtain ⟨y,h2,h⟩:=z8g (s:=b) h
   exact ⟨(x,y),by simp only [SK.fill,h1,h2],h⟩
  ·cases h
 | .bp i p o,v,k,h=>by
  simp only [SK.get] at h
  split at h
  ·rename_i j q c
   cases hb:(Nat.beq i j&&(zgm p q&&Nat.beq o c)) <;> rw [hb] at h
   ·cases h
   ·simp only [yh] at hb
    exact ⟨(),by simp only [SK.fill,yq hb.1,zvt hb.2.1,yq hb.2.2],h⟩
  ·cases h
 | .clo g s,v,k,h=>by
  simp only [SK.get] at h
  split at h
  ·rename_i g' w
   cases hb:Nat.beq g g' <;> rw [hb] at h
   ·cases h
   ·obtain ⟨x,h1,h2⟩:=z8g (s:=s) (k:=k) h
    exact ⟨x,by simp only [SK.fill,h1,yq hb],h2⟩
  ·cases h
 | .tup s,v,k,h=>by
  simp only [SK.get] at h
  split at h
  ·obtain ⟨x,h1,h2⟩:=z8g (s:=s) (k:=k) h
   exact ⟨x,by simp only [SK.fill,h1],h2⟩
  ·cases h
 | .cns a b,v,k,h=>by
  simp only [SK.get] at h
  split at h
  ·obtain ⟨x,h1,h⟩:=z8g (s:=a) h
   obtain ⟨y,h2,h⟩:=z8g (s:=b) h
   exact ⟨(x,y),by simp only [SK.fill,h1,h2],h⟩
  ·cases h
 | .nl,v,k,h=>by
  simp only [SK.get] at h
  split at h
  ·exact ⟨(),rfl,h⟩
  ·cases h
 | .no,v,k,h=>by
  simp only [SK.get] at h
  split at h
  ·exact ⟨(),rfl,h⟩
  ·cases h
 | .un,v,k,h=>by
  simp only [SK.get] at h
  split at h
  ·exact ⟨(),rfl,h⟩
  ·cases h

theorem zjz {σ:List (Nat×SV)}:∀ {l:List (Nat×SK)} {k:slT l→Option R0},zd6 σ l k=some res→∃ x,k x=some res∧∀ i v,(i,v)∈zgn l x→lk σ i=some v
 | [],k,h=>⟨(),h,by simp [zgn]⟩
 | (i,s)::l,k,h=>by
  simp only [zd6] at h
  split at h
  ·rename_i v hv
   obtain ⟨x,h1,h⟩:=z8g h
   obtain ⟨y,h2,h3⟩:=zjz h
   refine ⟨(x,y),h2,fun j u hj=>?_⟩
   rcases yx.1 hj with e | hj
   ·cases e; rw [hv,h1]
   ·exact h3 j u hj
  ·cases h
theorem zk0 {σ:List (Nat×Row)}:∀ {l:List (Nat×TypeId×Ty×Bool)} {k:zcz l→Option R0},zd7 σ l k=some res→∃ x,k x=some res∧∀ i v,(i,v)∈zd5 l x→lk σ i=some v
 | [],k,h=>⟨(),h,by simp [zd5]⟩
 | (i,e,t,z)::l,k,h=>by
  simp only [zd7] at h
  split at h
  ·rename_i r hr
   cases hb:(Nat.beq r.e e&&(r.z==z)) <;> rw [hb] at h
   ·cases h
   ·simp only [yh] at hb
    simp only [yi] at h
    obtain ⟨he,h⟩:=ze1 h
    obtain ⟨y,h2,h3⟩:=zk0 h
    obtain ⟨re,rt,rx,rz⟩:=r
    have e1:re=e:=yq hb.1
    have e2:rz=z:=eq_of_beq hb.2
    have e3:rt=t:=by injection he
    subst e1; subst e2; subst e3
    refine ⟨(rx,y),h2,fun j u hj=>?_⟩
    rcases yx.1 hj with q | hj
    ·cases q; exact hr
    ·exact h3 j u hj
  ·cases h
theorem zk1 {σ:List (Nat×Bx)}:∀ {l:List (Nat×TypeId×SK)} {k:bxT l→Option R0},zd8 σ l k=some res→∃ x,k x=some res∧∀ i v,(i,v)∈zay l x→lk σ i=some v
 | [],k,h=>⟨(),h,by simp [zay]⟩
 | (i,t,s)::l,k,h=>by
  simp only [zd8] at h
  split at h
  ·rename_i b hb'
   cases hb:Nat.beq b.ty t <;> rw [hb] at h
   ·cases h
   ·simp only [yi] at h
    obtain ⟨x,h1,h⟩:=z8g h
    obtain ⟨y,h2,h3⟩:=zk1 h
    refine ⟨(x,y),h2,fun j u hj=>?_⟩
    rcases yx.1 hj with q | hj
    ·cases q
     rw [hb',h1,← yq hb]
    ·exact h3 j u hj
  ·cases h

theorem z5t:∀ (s:SK) (x:s.T),(s.fill x).roots=s.roots∧(s.fill x).boxes=s.boxes
 | .val t,x=>⟨rfl,rfl⟩
 | .ref i p,x=>⟨rfl,rfl⟩
 | .vw i,x=>⟨rfl,rfl⟩
 | .ls i,x=>⟨rfl,rfl⟩
 | .st s,x=>z5t s x
 | .pr a b,x=>⟨by simp [SK.fill,SV.roots,SK.roots,(z5t a x.1).1,(z5t b x.2).1],by simp [SK.fill,SV.boxes,SK.boxes,(z5t a x.1).2,(z5t b x.2).2]⟩
 | .bp i p o,x=>⟨rfl,rfl⟩
 | .clo g s,x=>z5t s x
 | .tup s,x=>z5t s x
 | .cns a b,x=>⟨by simp [SK.fill,SV.roots,SK.roots,(z5t a x.1).1,(z5t b x.2).1],by simp [SK.fill,SV.boxes,SK.boxes,(z5t a x.1).2,(z5t b x.2).2]⟩
 | .nl,x=>⟨rfl,rfl⟩
 | .no,x=>⟨rfl,rfl⟩
 | .un,x=>⟨rfl,rfl⟩
theorem zvu:∀ {l:List (Nat×TypeId×Ty×Bool)} {x:zcz l} {i:Nat},(l.any fun r=>Nat.beq r.1 i)=true→∃ r,lk (zd5 l x) i=some r
 | (j,e,t,z)::l,x,i,h=>by
  simp only [List.any_cons,y2x] at h
  simp only [zd5]
  rw [zu]
  split
  ·exact ⟨_,rfl⟩
  ·rename_i hne
   rcases h with h | h
   ·exact absurd (yq h) hne
   ·exact zvu h
theorem zvv:∀ {l:List (Nat×TypeId×SK)} {x:bxT l} {i:Nat},(l.any fun r=>Nat.beq r.1 i)=true→∃ r,lk (zay l x) i=some r
 | (j,e,t)::l,x,i,h=>by
  simp only [List.any_cons,y2x] at h
  simp only [zay]
  rw [zu]
  split
  ·exact ⟨_,rfl⟩
  ·rename_i hne
   rcases h with h | h
   ·exact absurd (yq h) hne
   ·exact zvv h
theorem zk2:∀ {l:List (Nat×SK)} {x:slT l} {i:Nat} {v:SV},(i,v)∈zgn l x→∃ s y,(i,s)∈l∧v=SK.fill s y
 | (j,s)::l,x,i,v,h=>by
  rcases yx.1 h with e | h
  ·cases e; exact ⟨s,x.1,by simp,rfl⟩
  ·obtain ⟨s',y,h1,h2⟩:=zk2 h; exact ⟨s',y,by simp [h1],h2⟩
theorem zk3:∀ {l:List (Nat×TypeId×SK)} {x:bxT l} {i:Nat} {b:Bx},(i,b)∈zay l x→∃ t s y,(i,t,s)∈l∧b=⟨t,SK.fill s y⟩
 | (j,t,s)::l,x,i,v,h=>by
  rcases yx.1 h with e | h
  ·cases e; exact ⟨t,s,x.1,by simp,rfl⟩
  ·obtain ⟨t',s',y,h1,h2⟩:=zk3 h; exact ⟨t',s',y,by simp [h1],h2⟩
end

section
variable {P : Program} {E : Env} {w0 : World} {ok O : Nat → Prop} {σ σ' : St} {tm : Array Value} {w w' : World} {M M' : Map} {a : Act} {R0 : Type} {res : R0}

theorem ze2 {h:Head} {x:h.T} {s:SK} {y:s.T} (hk:s.okIn h=true):Live (h.fill x) (s.fill y):=by
 simp only [SK.okIn,yh,y17] at hk
 exact ⟨fun i hi=>by rw [(z5t s y).1] at hi; exact zvu (hk.1 i hi),fun i hi=>by rw [(z5t s y).2] at hi; exact zvv (hk.2 i hi)⟩

theorem z1aj (R:Rep E w0 ok O σ tm w M) {h:Head} (hk:h.ok=true) {k:h.T→Option R0} (hg:h.getP σ k=some res):∃ x M',k x=some res∧Rep E w0 ok O (h.fill x) tm w M':=by
 unfold Head.getP at hg
 simp only [] at hg
 obtain ⟨M',R'⟩:=z1af R (h.sl.map (·.1)) (h.bx.map (·.1))
 generalize σ.norm (h.sl.map (·.1)) (h.bx.map (·.1))=σ1 at hg R'
 obtain ⟨x,hg,hx⟩:=zjz hg
 obtain ⟨y,hg,hy⟩:=zk0 hg
 obtain ⟨z,hg,hz⟩:=zk1 hg
 simp only [Head.ok,yh,y17] at hk
 refine ⟨(x,y,z),M',hg,R'.le ⟨fun s v hv=>hx s v (z19 hv),fun s v hv=>hy s v (z19 hv),fun s v hv=>hz s v (z19 hv)⟩ (fun s v hv=>?_) (fun i b hb=>?_)⟩
 ·obtain ⟨sk,y',h1,rfl⟩:=zk2 (z19 hv)
  exact ze2 (hk.1 _ h1)
 ·obtain ⟨t,sk,y',h1,rfl⟩:=zk3 (z19 hb)
  exact ze2 (hk.2 _ h1)

theorem z1ak (R:Rep E w0 ok O σ tm w M) {h:Head} (hk:h.ok=true) {k:h.T→Option R0} (hg:h.getA σ k=some res):∃ x M',k x=some res∧Rep E w0 ok O (h.fill x) tm w M':=by
 unfold Head.getA at hg
 simp only [] at hg
 obtain ⟨M',R'⟩:=z1ai R (h.sl.map (·.1)) (h.bx.map (·.1))
 generalize σ.normA (h.sl.map (·.1)) (h.bx.map (·.1))=σ1 at hg R'
 obtain ⟨x,hg,hx⟩:=zjz hg
 obtain ⟨y,hg,hy⟩:=zk0 hg
 obtain ⟨z,hg,hz⟩:=zk1 hg
 simp only [Head.ok,yh,y17] at hk
 refine ⟨(x,y,z),M',hg,R'.le ⟨fun s v hv=>hx s v (z19 hv),fun s v hv=>hy s v (z19 hv),fun s v hv=>hz s v (z19 hv)⟩ (fun s v hv=>?_) (fun i b hb=>?_)⟩
 ·obtain ⟨sk,y',h1,rfl⟩:=zk2 (z19 hv)
  exact ze2 (hk.1 _ h1)
 ·obtain ⟨t,sk,y',h1,rfl⟩:=zk3 (z19 hb)
  exact ze2 (hk.2 _ h1)

theorem ze3 (R:Rep E w0 ok O σ tm w M) {h:Head} (hk:h.ok=true) {k:h.T→Option R0} (hg:h.get σ k=some res):∃ x M',k x=some res∧Rep E w0 ok O (h.fill x) tm w M':=by
 unfold Head.get at hg
 cases hp:h.pinned <;> rw [hp] at hg
 ·exact z1ak R hk hg
 ·exact z1aj R hk hg

theorem zvw {n:Nat} {ex:List (Nat×Head)} (hex:ex.all (fun x=>x.2.ok)=true) {kx:Nat→St→Option R0} {Q:Exit→Act→World→Prop} {id:Nat} (h:z1x E w0 ok O res n (kx id) (Q (.exit id))):z1x E w0 ok O res n (zdc ex kx id) (Q (.exit id)):=by
 intro w2 ok2 O2 hc σ a w M hk R hn hd
 unfold zdc at hk
 split at hk
 ·rename_i hh hl
  have hok:=y17.1 hex _ (z19 hl)
  obtain ⟨x,M',h1,R'⟩:=ze3 R hok hk
  exact h _ _ _ hc _ a w M' h1 R' hn hd
 ·cases hk

def zqk (n:Nat) (ops:Array Oper):Bool:=ops.toList.all fun o=>match o.dst with | some d=>Nat.blt d n | none=>true
def z4h (n:Nat):Code→Bool
 | .region _ ops _=>zqk n ops
 | .seq a b=>z4h n a&&z4h n b
 | .cond _ a b=>z4h n a&&z4h n b
 | .block _ c=>z4h n c
 | .loop c=>z4h n c
 | _=>true
def z4i:Code→List Code
 | .seq a b=>z4i a++z4i b
 | .cond _ a b=>z4i a++z4i b
 | .block _ c=>z4i c
 | .loop c=>c::z4i c
 | _=>[]
def z5u:Code→List Code
 | .seq a b=>b::(z5u a++z5u b)
 | .cond _ a b=>z5u a++z5u b
 | .block _ c=>z5u c
 | .loop c=>z5u c
 | _=>[]
def zk4 (E:Env) (LO:Oracles R0) (rd:St→Option R0) (b:Code) (f:St→(Nat→St→Option R0)→Option R0):Prop :=
 ∃ (h:Head) (ex:List (Nat×Head)) (F:Nat→h.T→(Nat→St→Option R0)→Option R0) (N:Nat),h.ok=true∧ex.all (fun x=>x.2.ok)=true∧(∀ x kx,F 0 x kx=none) ∧
  (∀ n x kx,F (n+1) x kx=evC E LO rd b (h.fill x) (fun σ=>h.get σ fun x'=>F n x' kx) (zdc ex kx))∧(∀ σ kx,f σ kx=h.get σ fun x=>F N x kx)
def zvx (E:Env) (LO:Oracles R0) (rd:St→Option R0) (b:Code) (f:St→(St→Option R0)→(Nat→St→Option R0)→Option R0):Prop :=
 ∃ (h hn:Head) (ex:List (Nat×Head)) (F:h.T→(St→Option R0)→(Nat→St→Option R0)→Option R0),h.ok=true∧hn.ok=true∧ex.all (fun x=>x.2.ok)=true ∧
  (∀ x kn kx,F x kn kx=evC E LO rd b (h.fill x) (fun σ=>hn.get σ fun y=>kn (hn.fill y)) (zdc ex kx))∧(∀ σ kn kx,f σ kn kx=h.get σ fun x=>F x kn kx)
structure CodeOK (E:Env) (LO:Oracles R0) (rd:St→Option R0) (n:Nat) (c:Code):Prop where
 dst:z4h n c=true
 loops:∀ b∈z4i c,∀ f,LO.loop (z48 b)=some f→zk4 E LO rd b f
 cuts:∀ b∈z5u c,∀ f,LO.cut (z48 b)=some f→zvx E LO rd b f

theorem z1al {n:Nat} {ops:Array Oper} (h:zqk n ops=true):∀ o∈ops.toList,∀ d,o.dst=some d→d<n:=by
 intro o ho d hd
 simp only [zqk,y17] at h
 have:=h o ho
 rw [hd] at this
 exact y19 this

theorem z1x.mono {n:Nat} {k:St→Option R0} {N N':Act→World→Prop} (h:z1x E w0 ok O res n k N) (hh:∀ a w,N a w→N' a w):z1x E w0 ok O res n k N' :=
 fun w1 ok1 O1 hc σ a w M h1 R hn hd=>hh a w (h w1 ok1 O1 hc σ a w M h1 R hn hd)

theorem z8h [Glob P] (T:zh P E.ti=true) (EQ:z2f P E) (hmix:P.follows .mixedOrders=true) {LO:Oracles R0} {rd:St→Option R0} {n:Nat}:∀ {c:Code},CodeOK E LO rd n c→∀ {w0:World} {ok O:Nat→Prop},SpecOK P E w0 O→z38 P E w0 O→∀ {kn:St→Option R0} {kx:Nat→St→Option R0} {Q:Exit→Act→World→Prop} {σ:St} {a:Act} {w:World} {M:Map},
  evC E LO rd c σ kn kx=some res→Rep E w0 ok O σ a.tmps w M→a.tmps.size=n→a.defers=[]→z1x E w0 ok O res n kn (Q .normal)→(∀ id,z1x E w0 ok O res n (kx id) (Q (.exit id)))→z1x E w0 ok O res n rd (Q .ret)→c.wp P Q a w
 | .skip,C,w0,ok,O,S,K,kn,kx,Q,σ,a,w,M,h,R,hn,hd,hkn,hkx,hrd=>wp_skip (hkn.at σ a w M h R hn hd)
 | .region id ops dr,C,w0,ok,O,S,K,kn,kx,Q,σ,a,w,M,h,R,hn,hd,hkn,hkx,hrd=>by
  have hB:=z1al C.dst
  cases dr with
  | false =>
   simp only [evC,yn] at h
   refine wp_region ?_
   have:=zqc (P:=P) T EQ S K hB hkn ops.toList 0 σ a w M rfl h R hn hd
   rw [List.range_eq_range',← y24]
   simpa using this
  | true =>
   simp only [evC,yi] at h
   have:=z1a9 (P:=P) (id:=id) T EQ S K hmix hB hkn h R hn hd
   simpa using this
 | .seq x y,C,w0,ok,O,S,K,kn,kx,Q,σ,a,w,M,h,R,hn,hd,hkn,hkx,hrd=>by
  have hC:z4h n x=true∧z4h n y=true:=by simpa [z4h] using C.dst
  have Cx:CodeOK E LO rd n x:=⟨hC.1,fun b hb=>C.loops b (by simp [z4i,hb]),fun b hb=>C.cuts b (by simp [z5u,hb])⟩
  have Cy:CodeOK E LO rd n y:=⟨hC.2,fun b hb=>C.loops b (by simp [z4i,hb]),fun b hb=>C.cuts b (by simp [z5u,hb])⟩
  simp only [evC] at h
  refine wp_seq ?_
  cases hc:LO.cut (z48 y) with
  | none =>
   rw [hc] at h
   simp only [] at h
   exact z8h T EQ hmix Cx S K h R hn hd (fun w2 ok2 O2 hc σ1 a1 w1 M1 h1 R1 hn1 hd1=>z8h T EQ hmix Cy (S.chg hc) (K.chg hc) h1 R1 hn1 hd1 (hkn.chg hc) (fun id=>(hkx id).chg hc) (hrd.chg hc)) hkx hrd
  | some f =>
   rw [hc] at h
   simp only [] at h
   obtain ⟨hh,hk,ex,F,c1,c4,c5,c2,c3⟩:=C.cuts y (by simp [z5u]) f hc
   refine z8h T EQ hmix Cx S K h R hn hd (fun w2 ok2 O2 hc σ1 a1 w1 M1 h1 R1 hn1 hd1=>?_) hkx hrd
   rw [c3] at h1
   obtain ⟨x1,M2,h2,R2⟩:=ze3 R1 c1 h1
   rw [c2] at h2
   refine z8h T EQ hmix Cy (S.chg hc) (K.chg hc) h2 R2 hn1 hd1 (fun w5 ok5 O5 hc5 σ3 a3 w3 M3 h3 R3 hn3 hd3=>?_) (fun id=>zvw c5 ((hkx id).chg hc)) (hrd.chg hc)
   obtain ⟨x4,M4,h4,R4⟩:=ze3 R3 c4 h3
   exact hkn _ _ _ (hc.trans hc5) _ a3 w3 M4 h4 R4 hn3 hd3
 | .cond x c1 c2,C,w0,ok,O,S,K,kn,kx,Q,σ,a,w,M,h,R,hn,hd,hkn,hkx,hrd=>by
  have hC:z4h n c1=true∧z4h n c2=true:=by simpa [z4h] using C.dst
  have Cx:CodeOK E LO rd n c1:=⟨hC.1,fun b hb=>C.loops b (by simp [z4i,hb]),fun b hb=>C.cuts b (by simp [z5u,hb])⟩
  have Cy:CodeOK E LO rd n c2:=⟨hC.2,fun b hb=>C.loops b (by simp [z4i,hb]),fun b hb=>C.cuts b (by simp [z5u,hb])⟩
  simp only [evC] at h
  split at h
  ·rename_i p hp
   have hv:=zpv R rfl hp
   refine wp_cond hv ?_
   split at h
   ·rename_i hpt
    rw [hpt]
    exact z8h T EQ hmix Cx S K h R hn hd hkn hkx hrd
   ·rename_i hpf
    rw [y5 hpf]
    exact z8h T EQ hmix Cy S K h R hn hd hkn hkx hrd
  ·cases h
 | .block id c,C,w0,ok,O,S,K,kn,kx,Q,σ,a,w,M,h,R,hn,hd,hkn,hkx,hrd=>by
  have Cx:CodeOK E LO rd n c:=⟨C.dst,C.loops,C.cuts⟩
  simp only [evC] at h
  refine wp_block (z8h T EQ hmix Cx S K h R hn hd hkn (fun j w2 ok2 O2 hc σ1 a1 w1 M1 h1 R1 hn1 hd1=>?_) hrd)
  simp only [z4x] at h1
  show if j=id then Q .normal a1 w1 else Q (.exit j) a1 w1
  by_cases hj:j=id
  ·rw [y4 hj]
   simp only [hj,y9,yi] at h1
   exact hkn _ _ _ hc σ1 a1 w1 M1 h1 R1 hn1 hd1
  ·rw [y5 hj]
   simp only [hj,yf,yn] at h1
   exact hkx j _ _ _ hc σ1 a1 w1 M1 h1 R1 hn1 hd1
 | .loop c,C,w0,ok,O,S,K,kn,kx,Q,σ,a,w,M,h,R,hn,hd,hkn,hkx,hrd=>by
  have Cx:CodeOK E LO rd n c:=⟨C.dst,fun b hb=>C.loops b (by simp [z4i,hb]),C.cuts⟩
  simp only [evC] at h
  split at h
  ·rename_i f hf
   obtain ⟨hh,ex,F,N,l1,l2,l3,l4,l5⟩:=C.loops c (by simp [z4i]) f hf
   rw [l5] at h
   obtain ⟨x,M',h1,R1⟩:=ze3 R l1 h
   refine wp_loop_ghost (fun m a w=>∃ x M w2 ok2 O2,F m x kx=some res∧Chg E w0 ok O w2 ok2 O2∧Rep E w2 ok2 O2 (hh.fill x) a.tmps w M∧a.tmps.size=n∧a.defers=[]) N ⟨x,M',_,_,_,h1,.refl,R1,hn,hd⟩ ?_
   intro m a1 w1 ⟨x1,M1,w2,ok2,O2,h2,hc,R2,hn2,hd2⟩
   cases m with
   | zero=>rw [l3] at h2; cases h2
   | succ m =>
    rw [l4] at h2
    refine z8h T EQ hmix Cx (S.chg hc) (K.chg hc) h2 R2 hn2 hd2 (fun w5 ok5 O5 hc5 σ3 a3 w3 M3 h3 R3 hn3 hd3=>?_) (fun id=>zvw l2 ((hkx id).chg hc)) (hrd.chg hc)
    obtain ⟨x4,M4,h4,R4⟩:=ze3 R3 l1 h3
    exact ⟨m,y3w m,x4,M4,_,_,_,h4,hc.trans hc5,R4,hn3,hd3⟩
  ·cases h
 | .exit id,C,w0,ok,O,S,K,kn,kx,Q,σ,a,w,M,h,R,hn,hd,hkn,hkx,hrd=>wp_exit ((hkx id).at σ a w M h R hn hd)
 | .ret,C,w0,ok,O,S,K,kn,kx,Q,σ,a,w,M,h,R,hn,hd,hkn,hkx,hrd=>wp_ret (hrd.at σ a w M h R hn hd)
 | .goto l,C,w0,ok,O,S,K,kn,kx,Q,σ,a,w,M,h,R,hn,hd,hkn,hkx,hrd=>by cases h
 | .label l,C,w0,ok,O,S,K,kn,kx,Q,σ,a,w,M,h,R,hn,hd,hkn,hkx,hrd=>by cases h
theorem zk5 [Glob P] (T:zh P E.ti=true) (EQ:z2f P E) (S:SpecOK P E w0 O) (K:z38 P E w0 O) (hmix:P.follows .mixedOrders=true) {LO:Oracles R0} {rd:St→Option R0} {n:Nat} {c:Code} (C:CodeOK E LO rd n c) {kn:St→Option R0} {kx:Nat→St→Option R0} {Q:Exit→Act→World→Prop} {σ:St} {a:Act} {w:World} {M:Map}
  (h:evC E LO rd c σ kn kx=some res) (R:Rep E w0 ok O σ a.tmps w M) (hn:a.tmps.size=n) (hd:a.defers=[]) (hkn:z1x E w0 ok O res n kn (Q .normal)) (hkx:∀ id,z1x E w0 ok O res n (kx id) (Q (.exit id))) (hrd:z1x E w0 ok O res n rd (Q .ret)):c.wp P Q a w :=
 z8h T EQ hmix C S K h R hn hd hkn hkx hrd
end
end Go.Proofs.YtchfjdcfhlhgcaaGreatDoor.Ev
