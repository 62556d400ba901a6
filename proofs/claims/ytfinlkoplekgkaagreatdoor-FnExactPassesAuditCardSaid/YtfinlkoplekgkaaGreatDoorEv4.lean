/- Plain values for a program that runs on a machine: an evaluator of loaded code and the proof that it tells what the machine does (part 4 of 6). No conditions: definitions and lemmas z5w any program. -/
import Derived.Test.YtfinlkoplekgkaaGreatDoorEv3
import Derived.Laws.Cover3
import Derived.Orders
import Derived.Deep.LoopGhost
set_option linter.unusedVariables false
set_option linter.unusedSimpArgs false
/- A stretch of a row's flat elements, written z5w. Over any program. -/
namespace Go.Proofs.YtfinlkoplekgkaaGreatDoor.Ev
open Go.RowKit

section
variable {P : Program} {E : Env} {w0 : World} {ok O : Nat → Prop} {σ σ' : St} {tm : Array Value} {w w' : World} {M : Map} {a : Act}

theorem z1bw {t:Ty} {l:L t} {v:Value} (hv:v.cells=(za t l).toArray) (hsz:t.sz≠0) (n:Nat):(Builtin.zeroCells v.cells n).toList=(List.replicate n l).flatMap (za t):=by
 have hvs:v.cells.size=t.sz:=by rw [hv]; simp [z23]
 have:Builtin.zeroCells v.cells n=((List.replicate n l).flatMap (za t)).toArray:=by
  apply Array.ext
  ·rw [size_zeroCells,hvs,List.size_toArray,z1u,List.length_replicate]
  ·intro k hk1 hk2
   rw [size_zeroCells,hvs] at hk1
   simp only [Builtin.zeroCells,Array.getElem_map,Array.getElem_range,hvs]
   have hm:k % t.sz<t.sz:=Nat.mod_lt _ (by omega)
   rw [getElem!_pos _ _ (by rw [hvs]; exact hm)]
   have hq:k / t.sz<n:=by rw [Nat.div_lt_iff_lt_mul (by omega)]; exact hk1
   have hf:=zjz t (List.replicate n l) (k / t.sz) l (by simp [hq]) (k % t.sz) hm
   rw [Nat.mul_comm,Nat.div_add_mod] at hf
   have h7:((List.replicate n l).flatMap (za t))[k]?=some v.cells[k % t.sz]:=by
    rw [hf,List.getElem?_eq_getElem (by rw [z23]; exact hm)]
    simp only [hv,List.getElem_toArray]
   rw [List.getElem?_eq_some_iff] at h7
   obtain ⟨_,h7⟩:=h7
   rw [List.getElem_toArray]
   exact h7.symm
 rw [this]

theorem Rep.same (R:Rep E w0 ok O σ tm w M) {j:Nat} {r:Row} (hr:lk σ.rows j=some r):∃ M',Rep E w0 ok O (σ.setRow j r) tm w M':=by
 obtain ⟨l,hl,he,hh,hnd,hpl⟩:=R.rows j r hr
 have:=R.upd (bs:=[]) (l':=l) hr hl (Kept.refl _ _) hh hnd hpl rfl (fun k hk=>.inl hk) Free.nil (fun _ _ _ p _=>z4t.refl _ _ _) (fun _ _ _ p _=>z4t.refl _ _ _)
 rw [he] at this
 exact ⟨_,this⟩

theorem z1bx {R0:Type} {res:R0} (R:Rep E w0 ok O σ tm w M) (hat:a.tmps=tm) (T:zi P E.ti=true) {xt ty:TypeId} {x:Operand} {k:St→Option R0} (h:zqi E σ xt x k=some res) :
  ∃ w' σ' M',(Builtin.clear_ #[xt] ty #[a.eval x]).run P w=.ok (.tuple #[]) w'∧k σ'=some res∧Rep E w0 ok O σ' tm w' M':=by
 unfold zqi at h
 split at h
 ·rename_i e e' u b j lo n hti hx
  obtain ⟨hu,hty⟩:=z7r T hti
  obtain ⟨⟨cs,⟨e1,t1,l1,hl1,hln,A,c,rfl,hc,hA⟩,hw⟩,hlive⟩:=z1d R hat hx
  have hv:a.eval x=.slice A n c:=by
   rcases hw with ⟨h5,_⟩ | ⟨_,h5⟩
   ·cases h5
   ·simp only [List.cons.injEq,and_true] at h5; exact h5.symm
  split at h
  ·rename_i r hr
   split at h
   ·rename_i z hz
    cases hb:((Nat.beq r.e e&&decide (r.t=E.tyOf e))&&r.t.flat) <;> rw [hb] at h
    ·cases h
    ·simp only [cond_true] at h
     simp only [Bool.and_eq_true,decide_eq_true_eq] at hb
     obtain ⟨⟨b1,b2⟩,b3⟩:=hb
     have b1:=Nat.eq_of_beq_eq_true b1
     obtain ⟨l,hl,he,hh,hnd,hpl⟩:=R.rows j r hr
     rw [hl] at hl1
     cases hl1
     rw [hv]
     by_cases hn:n=0
     ·subst hn
      obtain ⟨M',R'⟩:=R.same hr
      refine ⟨w,_,M',?_,h,?_⟩
      ·cases A <;> simp [Builtin.clear_,run_underlying hu]
      ·have:z2c r.xs lo (List.replicate 0 z)=r.xs:=by simp [z2c]
       rw [this]; exact R'
     ·have hA:=hA (.inl (by omega))
      cases hg:l.1 with
      | none =>
       have:=hh.1
       rw [hg] at this
       rw [this.1] at hln
       simp at hln
       omega
      | some g =>
       rw [hg] at hA
       obtain ⟨zl,z1,z2,z3,z4⟩:=z90 r.t hz
       have hz':(E.tyOf e).zero=some (b2▸z):=by
        have key:∀ (t:Ty) (e2:r.t=t),t.zero=some (e2▸z):=by intro t e2; subst e2; exact hz
        exact key _ b2
       obtain ⟨ti,v,i1,i2,i3,i4⟩:=zbv T hz'
       have hcz:z2o (E.tyOf e)=z2o r.t:=by rw [b2]
       have hvc:v.cells=(za r.t zl).toArray:=by apply Array.ext'; rw [i3,hcz,← z2]
       have hsz:r.t.sz≠0:=zht b3
       have hys:=z1bw hvc hsz n
       obtain ⟨cur,fz,k1,k2,k3,k4⟩:=zwj R hr hl hg b3 (lo:=lo) (ys:=List.replicate n zl) (by rw [List.length_replicate]; exact hln)
       have hyl:((List.replicate n zl).flatMap (za r.t)).length=n*r.t.sz:=by rw [z1u,List.length_replicate]
       rw [List.length_replicate] at k2 k3 k4
       have hone:=zi9 (List.replicate n zl)
       obtain ⟨w',e1,e2,e3,e4⟩:=zkr P g r.e fz ((List.replicate n zl).flatMap (za r.t)) (lo*r.t.sz) 0 cur w k1 (by rw [hyl]; simpa using k2) (by rw [hyl]; simpa using k3) hone
       rw [hyl,Nat.add_zero] at e2
       have R2:=k4 w' e2 e3 e4
       have hex:l.2.2.map (erase r.t)=r.xs:=he
       rw [List.map_replicate,z1,hex] at R2
       refine ⟨w',_,_,?_,h,R2⟩
       ·rw [hA]
        have hzv:(zeroValue e).run P w=.ok v w:=by simp [zeroValue,typeInfo,i1,i2]
        obtain ⟨m,rfl⟩:∃ m,n=m+1:=⟨n-1,by omega⟩
        have e1':(storeCells ⟨g,lo*r.t.sz,none⟩ (Builtin.zeroCells v.cells (m+1)).toList).run P w=.ok () w':=by rw [hys]; exact e1
        simp [Builtin.clear_,run_underlying hu,hzv,e1']
   ·cases h
  ·cases h
 ·cases h
end

section
variable {P : Program} {E : Env} {w0 : World} {ok O : Nat → Prop} {σ σ' : St} {tm : Array Value} {w w' : World} {M : Map} {a : Act}

theorem zwl {e:TypeId} {t:Ty} {l:L (.sl e t)} {p:List Step} {x:Loc} (hp:ixs p≤0) (h:zz (.sl e t) l p=some x):p=[]:=by
 match p with
 | []=>rfl
 | .f _::_=>cases h
 | .u::_=>cases h
 | .ix _::_=>simp [ixs] at hp
structure RetHd (e:TypeId) (t t':Ty) (l:L (.sl e t)) (l':L (.sl e t')):Prop where
 blk:l'.1=l.1
 cap:l'.2.1=l.2.1
 len:l'.2.2.length=l.2.2.length
 sz:t'.sz=t.sz
theorem zai {j:Nat} {e:TypeId} {t t':Ty} {l:L (.sl e t)} {l':L (.sl e t')} (hl:M.loc j=⟨.sl e t,l⟩) (H:RetHd e t t' l l'):∀ {s:SV} {cs:List Value},(∀ p∈s.paths j,ixs p≤0)→zc w0 ok M s cs→zc w0 ok (z1o M j ⟨.sl e t',l'⟩) s cs
 | .val t x,cs,h,hs=>hs
 | .ref i p,cs,h,hs=>by
  by_cases hi:i=j
  ·subst hi
   obtain ⟨e1,t1,l1,h1,rfl⟩:=hs
   rw [hl] at h1
   have hp:=zwl (h p (by simp [SV.paths])) h1
   subst hp
   rw [z3a] at h1
   cases h1
   exact ⟨e,t',l',(congrArg (fun z:Loc=>zz z.1 z.2 []) (z1y M.loc i ⟨.sl e t',l'⟩)).trans (z3a _ _),by simp [za,H.blk,H.cap,H.len]⟩
  ·have:(z1o M j ⟨.sl e t',l'⟩).loc i=M.loc i:=z3p _ _ hi
   simp only [zc] at hs ⊢
   rw [this]; exact hs
 | .vw i lo n,cs,h,hs=>by
  by_cases hi:i=j
  ·subst hi
   obtain ⟨e1,t1,l1,h1,h2,A,c,rfl,h3,h4⟩:=hs
   rw [hl] at h1
   cases h1
   exact ⟨e,t',l',z1y _ _ _,by rw [H.len]; exact h2,A,c,rfl,by rw [H.cap]; exact h3,fun hh=>by rw [H.blk,H.sz]; exact h4 hh⟩
  ·have:(z1o M j ⟨.sl e t',l'⟩).loc i=M.loc i:=z3p _ _ hi
   simp only [zc] at hs ⊢
   rw [this]; exact hs
 | .ls i,cs,h,hs=>hs
 | .st s,cs,h,hs=>zai hl H (s:=s) h hs
 | .pr a b,cs,h,hs=>by
  obtain ⟨c1,c2,rfl,h1,h2⟩:=hs
  exact ⟨c1,c2,rfl,zai hl H (fun p hp=>h p (by simp [SV.paths,hp])) h1,zai hl H (fun p hp=>h p (by simp [SV.paths,hp])) h2⟩
 | .bp i p o,cs,h,hs=>hs
 | .ep i p n f o,cs,h,hs=>by
  by_cases hi:i=j
  ·subst hi
   obtain ⟨e1,t1,l1,g,h1,h6,h7,rfl⟩:=hs
   rw [hl] at h1
   have hp:=zwl (h p (by simp [SV.paths])) h1
   subst hp
   rw [z3a] at h1
   cases h1
   exact ⟨e,t',l',g,(congrArg (fun z:Loc=>zz z.1 z.2 []) (z1y M.loc i ⟨.sl e t',l'⟩)).trans (z3a _ _),by rw [H.blk]; exact h6,by rw [H.len]; exact h7,by rw [H.sz]⟩
  ·have:(z1o M j ⟨.sl e t',l'⟩).loc i=M.loc i:=z3p _ _ hi
   simp only [zc] at hs ⊢
   rw [this]; exact hs
 | .lp i n,cs,h,hs=>hs
 | .clo g c,cs,h,hs=>by
  obtain ⟨caps,rfl,h1⟩:=hs
  exact ⟨caps,rfl,zai hl H (s:=c) h h1⟩
 | .no,cs,h,hs=>hs
 | .un,cs,h,hs=>hs
 | .tup _,_,_,h=>h.elim
 | .cns _ _,_,_,h=>h.elim
 | .nl,_,_,h=>h.elim
theorem z1by {j:Nat} {e:TypeId} {t t':Ty} {l:L (.sl e t)} {l':L (.sl e t')} (hl:M.loc j=⟨.sl e t,l⟩) (H:RetHd e t t' l l') {s:SV}:∀ {cs:List Value},(∀ p∈s.paths j,ixs p≤0)→z1m w0 ok M s cs→z1m w0 ok (z1o M j ⟨.sl e t',l'⟩) s cs:=by
 induction s with
 | cns a b iha ihb =>
  intro cs h hs
  obtain ⟨c1,c2,rfl,h1,h2⟩:=hs
  exact ⟨c1,c2,rfl,zai hl H (fun p hp=>h p (by simp [SV.paths,hp])) h1,ihb (fun p hp=>h p (by simp [SV.paths,hp])) h2⟩
 | nl=>intro cs h hs; exact hs
 | _=>intro cs h hs; exact zai hl H h hs
theorem z1bz {j:Nat} {e:TypeId} {t t':Ty} {l:L (.sl e t)} {l':L (.sl e t')} (hl:M.loc j=⟨.sl e t,l⟩) (H:RetHd e t t' l l') {s:SV}:∀ {vs:List Value},(∀ p∈s.paths j,ixs p≤0)→z2m w0 ok M s vs→z2m w0 ok (z1o M j ⟨.sl e t',l'⟩) s vs:=by
 induction s with
 | cns a b iha ihb =>
  intro vs h hs
  obtain ⟨v,vs',rfl,⟨cs,h1,h3⟩,h2⟩:=hs
  exact ⟨v,vs',rfl,⟨cs,zai hl H (fun p hp=>h p (by simp [SV.paths,hp])) h1,h3⟩,ihb (fun p hp=>h p (by simp [SV.paths,hp])) h2⟩
 | nl=>intro cs h hs; exact hs
 | _=>intro vs h hs; exact hs.elim
theorem z1c0 {j:Nat} {e:TypeId} {t t':Ty} {l:L (.sl e t)} {l':L (.sl e t')} (hl:M.loc j=⟨.sl e t,l⟩) (H:RetHd e t t' l l') {s:SV} {v:Value} (h:∀ p∈s.paths j,ixs p≤0) (hs:zq w0 ok M s v):zq w0 ok (z1o M j ⟨.sl e t',l'⟩) s v:=by
 rcases z3f hs with rfl | ⟨c,vs,rfl,rfl,h1⟩ | ⟨cs,h1,h2⟩
 ·trivial
 ·exact ⟨vs,rfl,z1bz hl H h h1⟩
 ·exact z1v (zai hl H h h1) h2

theorem z1c1 {R0:Type} {res:R0} (R:Rep E w0 ok O σ tm w M) {j:Nat} {k:St→Option R0} (h:zqq E σ j k=some res) :
  ∃ w1 ok1 O1 σ' M',Chg E w0 ok O w1 ok1 O1∧k σ'=some res∧Rep E w1 ok1 O1 σ' tm w M':=by
 unfold zqq at h
 split at h
 ·rename_i e e2 u xs hr
  cases hb:(u.flat&&E.rdm) <;> rw [hb] at h
  ·cases h
  simp only [Bool.and_eq_true] at hb
  simp only [cond_true] at h
  obtain ⟨R1,kS,kB⟩:=R.killIn j 0
  have hr1:lk (σ.killIn j 0).rows j=some ⟨e,.sl e2 u,xs,false⟩:=hr
  obtain ⟨l,hl,hel,hh,hnd,hpl⟩:∃ l:L (.sl e (.sl e2 u)),M.loc j=⟨.sl e (.sl e2 u),l⟩∧erase (.sl e (.sl e2 u)) l=xs∧holds (Rd w0 ok) w (.sl e (.sl e2 u)) l∧(z7 (.sl e (.sl e2 u)) l).Nodup∧plain w (.sl e (.sl e2 u)) l:=by
   obtain ⟨l,a1,a2,a3,a4,a5⟩:=R.rows j _ hr
   exact ⟨l,a1,a2,a3,a4,a5 rfl⟩
  -- the blocks that become only read
  obtain ⟨bs,hbs⟩:∃ bs,bs=l.2.2.flatMap (z7 (.sl e2 u)):=⟨_,rfl⟩
  have hbl:z7 (.sl e (.sl e2 u)) l=l.1.toList++bs:=by rw [hbs]; rfl
  have hin:∀ k∈bs,k∈z7 (.sl e (.sl e2 u)) l:=fun k hk=>by rw [hbl]; exact List.mem_append.2 (.inr hk)
  have hj:∃ r,lk (σ.killIn j 0).rows j=some r:=⟨_,hr1⟩
  have own:∀ k∈bs,¬ ok k∧(O k∨w0.heap.size≤k):=fun k hk=>R1.ownR j hj k (by rw [hl]; exact hin k hk)
  have B:Based w0 ok O w (fun k=>ok k∨k∈bs) (fun k=>(O k∨w0.heap.size≤k)∧k∉bs) :=
   ⟨R.kept,fun k h=>.inl h,R.okB,fun k h=>h.1,fun k h=>h.elim .inl fun hk=>.inr (own k hk).2⟩
  have H:∀ (t:Ty) (x:t.T) (cs:List Value),Rd w0 ok t x cs→Rd w (fun k=>ok k∨k∈bs) t x cs:=fun _ _ _ h=>B.rd h
  -- the elements, only read
  have hex:∀ ys:List (L (.sl e2 u)),(∀ y∈ys,y∈l.2.2)→∃ zs:List (L (.rd (.sl e2 u))),zs.flatMap (za (.rd (.sl e2 u)))=ys.flatMap (za (.sl e2 u))∧zs.map (erase (.rd (.sl e2 u)))=ys.map (erase (.sl e2 u))∧zs.length=ys.length∧∀ z∈zs,Rd w (fun k=>ok k∨k∈bs) (.sl e2 u) z.1.1 z.1.2:=by
   intro ys
   induction ys with
   | nil=>intro _; exact ⟨[],rfl,rfl,rfl,by simp⟩
   | cons y ys ih =>
    intro hy
    obtain ⟨zs,h1,h2,h3,h4⟩:=ih (fun z hz=>hy z (List.mem_cons_of_mem _ hz))
    have hym:=hy y (by simp)
    have hrd:=z7p (F:=Rd w0 ok) H (fun k hk=>.inr (by rw [hbs]; exact List.mem_flatMap.2 ⟨y,hym,hk⟩)) (hh.2 y hym)
    refine ⟨rdL hrd::zs,?_,?_,by simp [h3],?_⟩
    ·rw [List.flatMap_cons,List.flatMap_cons,h1]; rfl
    ·rw [List.map_cons,List.map_cons,h2]; rfl
    ·intro z hz
     rcases List.mem_cons.1 hz with rfl | hz
     ·exact hrd
     ·exact h4 z hz
  obtain ⟨zs,z1,z2,z3,z4⟩:=hex l.2.2 (fun _ h=>h)
  have S:RetHd e (.sl e2 u) (.rd (.sl e2 u)) l (l.1,l.2.1,zs):=⟨rfl,rfl,z3,rfl⟩
  have hnb:z7 (.sl e (.rd (.sl e2 u))) (l.1,l.2.1,zs)=l.1.toList:=by
   have:zs.flatMap (z7 (.rd (.sl e2 u)))=[]:=List.flatMap_eq_nil_iff.2 fun z _=>rfl
   show l.1.toList++zs.flatMap (z7 (.rd (.sl e2 u)))=_
   rw [this,List.append_nil]
  have hsame:(z1o M j ⟨.sl e (.rd (.sl e2 u)),(l.1,l.2.1,zs)⟩).loc j=⟨.sl e (.rd (.sl e2 u)),(l.1,l.2.1,zs)⟩:=z1y _ _ _
  have hother:∀ i,i≠j→(z1o M j ⟨.sl e (.rd (.sl e2 u)),(l.1,l.2.1,zs)⟩).loc i=M.loc i:=fun i hi=>z3p _ _ hi
  have hrows:∀ i r,lk ((σ.killIn j 0).setRow j ⟨e,.rd (.sl e2 u),xs,false⟩).rows i=some r→(i=j∧r=⟨e,.rd (.sl e2 u),xs,false⟩)∨(i≠j∧lk (σ.killIn j 0).rows i=some r):=by
   intro i r h
   have h:lk (up (σ.killIn j 0).rows j _) i=some r:=h
   rw [z7y] at h
   split at h
   ·rename_i hi; subst hi; rw [hr1] at h; cases h; exact .inl ⟨rfl,rfl⟩
   ·rename_i hi; exact .inr ⟨fun e=>hi e.symm,h⟩
  have hbr:∀ i,(∃ r,lk ((σ.killIn j 0).setRow j ⟨e,.rd (.sl e2 u),xs,false⟩).rows i=some r)→∃ r,lk (σ.killIn j 0).rows i=some r:=by
   rintro i ⟨r,h⟩
   rcases hrows i r h with ⟨rfl,_⟩ | ⟨_,h⟩
   ·exact hj
   ·exact ⟨r,h⟩
  have hfr:∀ i,(∃ r,lk (σ.killIn j 0).rows i=some r)→∃ r,lk ((σ.killIn j 0).setRow j ⟨e,.rd (.sl e2 u),xs,false⟩).rows i=some r:=by
   rintro i ⟨r,h⟩
   show ∃ r,lk (up (σ.killIn j 0).rows j _) i=some r
   rw [z7y]
   split
   ·rw [h]; exact ⟨_,rfl⟩
   ·exact ⟨r,h⟩
  have hsub:∀ i,∀ k∈z7 ((z1o M j ⟨.sl e (.rd (.sl e2 u)),(l.1,l.2.1,zs)⟩).loc i).1 ((z1o M j ⟨.sl e (.rd (.sl e2 u)),(l.1,l.2.1,zs)⟩).loc i).2,k∈z7 (M.loc i).1 (M.loc i).2:=by
   intro i k hk
   by_cases hi:i=j
   ·subst hi
    rw [hsame] at hk
    have hk:k∈z7 (.sl e (.rd (.sl e2 u))) (l.1,l.2.1,zs):=hk
    rw [hnb] at hk
    rw [hl]
    exact List.mem_append.2 (.inl hk)
   ·rw [hother i hi] at hk; exact hk
  have hnbs:∀ i,(∃ r,lk (σ.killIn j 0).rows i=some r)→∀ k∈z7 ((z1o M j ⟨.sl e (.rd (.sl e2 u)),(l.1,l.2.1,zs)⟩).loc i).1 ((z1o M j ⟨.sl e (.rd (.sl e2 u)),(l.1,l.2.1,zs)⟩).loc i).2,k∉bs:=by
   intro i hi k hk hb
   by_cases hij:i=j
   ·subst hij
    rw [hsame] at hk
    have hk:k∈z7 (.sl e (.rd (.sl e2 u))) (l.1,l.2.1,zs):=hk
    rw [hnb] at hk
    rw [hbl] at hnd
    exact (List.nodup_append.1 hnd).2.2 k hk k hb rfl
   ·rw [hother i hij] at hk
    exact R1.rr i j hij hi hj k hk (by rw [hl]; exact hin k hb)
  refine ⟨w,_,_,_,z1o M j ⟨.sl e (.rd (.sl e2 u)),(l.1,l.2.1,zs)⟩,.inr ⟨hb.2,B⟩,h,?_⟩
  constructor
  ·intro s v hs
   obtain ⟨z,h1,h2⟩:=R1.slots s v hs
   exact ⟨z,h1,z1c0 hl S (kS s v hs) (zi5 H h2)⟩
  ·intro i r hi
   rcases hrows i r hi with ⟨rfl,rfl⟩ | ⟨hne,hi⟩
   ·refine ⟨(l.1,l.2.1,zs),hsame,?_,⟨?_,fun z hz=>z4 z hz⟩,?_,fun _=>⟨?_,fun z hz=>trivial⟩⟩
    ·show zs.map (erase (.rd (.sl e2 u)))=xs
     rw [z2,← hel]; rfl
    ·have h1:=hh.1
     simp only [] at h1 ⊢
     cases hg:l.1 with
     | none =>
      rw [hg] at h1
      simp only [] at h1 ⊢
      refine ⟨List.length_eq_zero_iff.1 (by rw [z3,h1.1]; rfl),h1.2⟩
     | some g =>
      rw [hg] at h1
      obtain ⟨cur,fz,c1,c2,c3,c4,c5,c6⟩:=h1
      exact ⟨cur,fz,c1,by rw [z3]; exact c2,c3,c4,by rw [z1,z3]; exact c5,by rw [z3]; exact c6⟩
    ·show (z7 (.sl e (.rd (.sl e2 u))) (l.1,l.2.1,zs)).Nodup
     rw [hnb]
     cases l.1 <;> simp
    ·exact hpl.1
   ·obtain ⟨l2,h1,h2,h3,h4⟩:=R1.rows i r hi
    exact ⟨l2,(hother i hne).trans h1,h2,z6s H h3,h4⟩
  ·intro i b hi
   obtain ⟨cs,h1,h2⟩:=R1.boxes i b hi
   exact ⟨cs,z1by hl S (kB i b hi) (zen H h1),h2⟩
  ·intro i i' hne hi hi' k hk hk'
   exact R1.rr i i' hne (hbr i hi) (hbr i' hi') k (hsub i k hk) (hsub i' k hk')
  ·exact R1.bb
  ·intro i i' hi hi' hk
   exact R1.rb i i' (hbr i hi) hi' (hsub i _ hk)
  ·intro i hi k hk
   have h1:=R1.ownR i (hbr i hi) k (hsub i k hk)
   have hn:=hnbs i (hbr i hi) k hk
   exact ⟨fun ho=>ho.elim h1.1 hn,.inl ⟨h1.2,hn⟩⟩
  ·intro i hi
   have h1:=R1.ownB i hi
   have hn:M.blk i∉bs:=fun hb=>R1.rb j i hj hi (by rw [hl]; exact hin _ hb)
   exact ⟨fun ho=>ho.elim h1.1 hn,.inl ⟨h1.2,hn⟩⟩
  ·rintro k (hk | hk)
   ·obtain ⟨h1,h2⟩:=R1.okB k hk
    exact ⟨Nat.lt_of_lt_of_le h1 R.kept.size,fun h=>h.1.elim h2 fun h=>absurd h1 (Nat.not_lt.2 h)⟩
   ·exact ⟨z1l hh k (hin k hk),fun h=>h.2 hk⟩
  ·intro s v hs
   have:=R1.liveS s v hs
   exact ⟨fun i hi=>hfr i (this.rows i hi),this.boxes⟩
  ·intro i b hi
   have:=R1.liveB i b hi
   exact ⟨fun i hi=>hfr i (this.rows i hi),this.boxes⟩
  ·exact Kept.refl _ _
  ·intro i hi hr2
   have h1:=R1.pin i hi (hbr i hr2)
   by_cases hij:i=j
   ·subst hij
    rw [hl] at h1
    rw [hsame]
    show za (.sl e (.rd (.sl e2 u))) (l.1,l.2.1,zs)=_
    rw [← h1]
    simp [za,z3]
   ·rw [hother i hij]; exact h1
  ·exact R1.pinB
 ·exact ⟨w0,ok,O,σ,M,.refl,h,R⟩
theorem zia {R0:Type} {res:R0} {c:OC}:∀ (hs:List (Nat×SK)) (xs:List Operand) {w0:World} {ok O:Nat→Prop} {σ:St} {M:Map} {k:St→Option R0},Rep E w0 ok O σ tm w M→fzC E c hs xs σ k=some res →
  ∃ w1 ok1 O1 σ' M',Chg E w0 ok O w1 ok1 O1∧k σ'=some res∧Rep E w1 ok1 O1 σ' tm w M'
 | [],_,w0,ok,O,σ,M,k,R,h=>⟨w0,ok,O,σ,M,.refl,h,R⟩
 | hd::hs,[],w0,ok,O,σ,M,k,R,h=>⟨w0,ok,O,σ,M,.refl,h,R⟩
 | hd::hs,x::xs,w0,ok,O,σ,M,k,R,h=>by
  simp only [fzC] at h
  split at h
  ·rename_i n p
   cases hp:zuq c p <;> rw [hp] at h
   ·exact zia hs xs R h
   ·simp only [cond_true] at h
    split at h
    ·obtain ⟨w1,ok1,O1,σ1,M1,hc,h1,R1⟩:=z1c1 R h
     obtain ⟨w2,ok2,O2,σ2,M2,hc2,h2,R2⟩:=zia hs xs R1 h1
     exact ⟨w2,ok2,O2,σ2,M2,hc.trans hc2,h2,R2⟩
    ·exact zia hs xs R h
  ·exact zia hs xs R h
end

def z3h (P:Program) (E:Env) (w0:World) (O:Nat→Prop):Prop:=∀ (w1:World) (O1:Nat→Prop),Mov w0 O w1 O1→∀ {R0:Type} {res:R0} {ok:Nat→Prop} {σ:St} {a:Act} {w:World} {M:Map} {o:Oper} {g:FuncId} {c:OC} {f:Operand} {args:Array Operand} {ts:Array TypeId} {k:St→Option R0},
 E.opn (z12 o)=some (g,c)→Rep E w1 ok O1 σ a.tmps w M→o.op=.call ⟨.value f,args,ts⟩→inB o.dst a.tmps→a.defers=[]→zhj E σ (z12 o) o.dst g c f args.toList ts.toList k=some res →
 ∀ {next:Act→World→Prop} {Q:Exit→Act→World→Prop},z1z E w1 ok O1 res a.tmps.size k next→o.wp P a w next Q
theorem z3h.none {P:Program} {E:Env} {w0:World} {O:Nat→Prop} (h:∀ g,E.opn g=.none):z3h P E w0 O:=fun _ _ _ _ _ _ _ _ _ _ _ _ _ _ _ _ _ hk=>by rw [h] at hk; cases hk
theorem z3h.chg {P:Program} {E:Env} {w0:World} {ok O:Nat→Prop} (K:z3h P E w0 O) {w1:World} {ok1 O1:Nat→Prop} (hc:Chg E w0 ok O w1 ok1 O1):z3h P E w1 O1:=fun _ _ m=>K _ _ (hc.mov.trans m)

theorem z1c2 {R:Type} {a b:Option R} {r:R} (h:zhf a b=some r):a=some r∧b=some r:=by
 unfold zhf at h
 split at h
 ·rename_i e; exact ⟨h,e▸h⟩
 ·cases h

section
variable {P : Program} {E : Env} {w0 : World} {ok O : Nat → Prop} {σ σ' : St} {tm : Array Value} {w w' : World} {M : Map} {a : Act}

theorem z1c3 {R0:Type} {res:R0} (R:Rep E w0 ok O σ a.tmps w M) (T:zi P E.ti=true) {xt yt:TypeId} {x:Operand} {k:Bool→Option R0} (h:zhg E σ xt x k=some res) (op:BinOp) (hop:op=.eql∨op=.neq) :
  ∃ b,k b=some res∧(do eqGuard op xt x (.const (.slice none 0 0)) (a.eval x) (.slice none 0 0); binOp op xt (a.eval x) (.slice none 0 0):Sem Value).run P w=.ok (.bool (if op=.eql then b else !b)) w:=by
 unfold zhg at h
 cases hk:E.isSl xt <;> rw [hk] at h
 ·cases h
 ·simp only [Bool.not_true,cond_false] at h
  obtain ⟨e,hu⟩:=zku T hk
  split at h
  ·rename_i s hs
   rw [z18] at h
   obtain ⟨⟨t,xs⟩,h1,h⟩:=Option.bind_eq_some_iff.1 h
   obtain ⟨cs,hr,hw⟩:=z8w R rfl hs h1
   cases t with
   | sl e' t' =>
    simp only [] at h hr hw
    obtain ⟨A,c,rfl,hl,hx⟩:=hr
    have hv:a.eval x=.slice A (List.length xs) c:=by
     rcases hw with ⟨h5,_⟩ | ⟨_,h5⟩
     ·cases h5
     ·simp only [List.cons.injEq,and_true] at h5; exact h5.symm
    have hrun:(do eqGuard op xt x (.const (.slice none 0 0)) (a.eval x) (.slice none 0 0); binOp op xt (a.eval x) (.slice none 0 0):Sem Value).run P w=.ok (.bool (if op=.eql then A.isNone else !A.isNone)) w:=by
     rw [hv]
     have hg:eqGuard op xt x (.const (.slice none 0 0)) (.slice A (List.length xs) c) (.slice none 0 0)=pure ():=by cases op <;> rfl
     rw [hg]
     simp only [Sem.run_bind,Sem.run_pure,Result.andThen_ok]
     rcases hop with rfl | rfl
     ·simp only [binOp,if_true]
      simp [Go.run_equal_slice_nil w xt e A _ c hu]
     ·simp only [reduceCtorEq,if_false]
      exact Go.run_neq_slice_nil w xt e A _ c hu
    refine ⟨A.isNone,?_,hrun⟩
    split at h
    ·obtain ⟨g1,g2⟩:=z1c2 h
     cases A <;> assumption
    ·rename_i hne
     have:xs≠[]:=fun e=>hne (by rw [e]; rfl)
     obtain ⟨ad,rfl,_⟩:=hx this
     exact h
   | _=>cases h
  ·cases h

theorem Rep.reput (R:Rep E w0 ok O σ tm w M) {d:Tmp} {s:SV} {v:Value} (hv:tm[d]?=some v) (hs:zq w0 ok M s v) (hl:Live σ s):Rep E w0 ok O (σ.put (some d) s) tm w M:=by
 have hd:d<tm.size:=(Array.getElem?_eq_some_iff.1 hv).1
 have:=R.putV (d:=some d) hs hl (fun x hx=>by cases hx; exact hd)
 have e:z42 tm (some d) v=tm:=by
  simp only [z42]
  apply Array.ext_getElem?
  intro i
  by_cases hi:d=i
  ·subst hi; rw [hv]; simp [hd]
  ·rw [Array.getElem?_setIfInBounds_ne hi]
 rw [e] at this
 exact this

theorem z1c4 {R0:Type} {res:R0} (R:Rep E w0 ok O σ tm w M) {d:Nat} {dst:Option Tmp} {ty:TypeId} {k:St→Option R0} (h:zqj E σ d dst ty k=some res):∃ σ' M',k σ'=some res∧Rep E w0 ok O σ' tm w M':=by
 unfold zqj at h
 split at h
 ·exact ⟨σ,M,h,R⟩
 ·rename_i s
  split at h
  ·rename_i j hj
   split at h
   ·rename_i b hb
    cases hk:((E.tyOf b.ty).flat||Nat.beq b.c.count 0) <;> rw [hk] at h
    ·exact ⟨σ,M,h,R⟩
    ·simp only [cond_true] at h
     obtain ⟨u,h1,cs,h2,h3⟩:=R.slots s _ hj
     obtain ⟨σ1,t,l,g1,g2,g3,g4,g5,g6⟩:=z64 depth w0 ok O σ tm w M _ cs _ R h2 h
     cases t with
     | sl e t =>
      simp only [] at g1
      cases hp:Nat.blt (32*d) PIN <;> rw [hp] at g1
      ·cases g1
      ·simp only [cond_true] at g1
       have fin:∀ (t':Ty) (l':L (.sl e t')),holds (Rd w0 ok) w (.sl e t') l'→plain w (.sl e t') l'→z7 (.sl e t') l'=z7 (.sl e t) l→za (.sl e t') l'=cs→k ((σ1.addRow (32*d) ⟨e,t',erase (.sl e t') l',false⟩).put (some s) (.ref (32*d) []))=some res→∃ σ' M',k σ'=some res∧Rep E w0 ok O σ' tm w M':=by
        intro t' l' b1 b2 b3 b4 b5
        have R2:=g6.rep.addOwn (32*d) (Nat.le_of_ble_eq_true hp) l' b1 b2 (b3▸g6.free)
        refine ⟨_,_,b5,R2.reput h1 ⟨cs,⟨e,t',l',(congrArg (fun z:Loc=>zz z.1 z.2 []) (z1y M.loc (32*d) ⟨.sl e t',l'⟩)).trans rfl,b4.symm⟩,h3⟩ ⟨fun i hi=>?_,by simp [SV.boxes]⟩⟩
        simp [SV.roots] at hi
        subst hi
        exact ⟨_,z62 _ _ _⟩
       split at g1
       ·rename_i e2 u' b2 hty hx
        cases hsz:Nat.beq u'.sz t.sz <;> rw [hsz] at g1
        ·cases g1
        ·have hsz:=Nat.eq_of_beq_eq_true hsz
         simp only [cond_true] at g1
         obtain ⟨lb,lc,lx⟩:=l
         have hl0:lx=[]:=List.map_eq_nil_iff.1 hx
         subst hl0
         refine fin (.rd u') (lb,lc,[]) ⟨?_,by simp⟩ ⟨?_,by simp⟩ (by simp [z7]) g4 g1
         ·have h8:=g2.1
          cases lb with
          | none=>exact ⟨rfl,h8.2⟩
          | some g =>
           obtain ⟨cur,fz,c1,c2,c3,c4,c5,c6⟩:=h8
           exact ⟨cur,fz,c1,Nat.zero_le _,c3,by show lc*u'.sz≤_; rw [hsz]; exact c4,by simp,.inr (by simp)⟩
         ·intro b hb
          obtain ⟨cur,e3,c1,c2⟩:=g3.1 b hb
          exact ⟨cur,e3,c1,by show _=lc*u'.sz; rw [hsz]; exact c2⟩
       ·exact fin t l g2 g3 rfl g4 g1
     | _=>cases g1
   ·cases h
  ·cases h

theorem zwm [Glob P] {R0:Type} {res:R0} (R:Rep E w0 ok O σ a.tmps w M) (T:zi P E.ti=true) (EQ:z2j P E) (S:SpecOK P E w0 O) (K:z3h P E w0 O) {o:Oper} (hin:inB o.dst a.tmps) (hd:a.defers=[]) {k:St→Option R0} (h:za2 E σ o k=some res)
  {next:Act→World→Prop} {Q:Exit→Act→World→Prop} (hn:z1z E w0 ok O res a.tmps.size k next):o.wp P a w next Q:=by
 have nil:∀ {op:BinOp} {xt yt:TypeId} {x:Operand} {k':Bool→Option R0},o.op=.binOp op xt x (.const (.slice none 0 0)) yt→(op=.eql∨op=.neq)→zhg E σ xt x k'=some res→(∀ b,k' b=k (σ.put o.dst (.val .bool (if op=.eql then b else !b))))→o.wp P a w next Q:=by
  intro op xt yt x k' hop ho h hk
  obtain ⟨b,h1,h2⟩:=z1c3 R T h op ho (yt:=yt)
  unfold Oper.wp execOp
  rw [hop]
  have he:a.eval (.const (.slice none 0 0))=.slice none 0 0:=rfl
  simp only [he]
  rw [Sem.run_bind,h2]
  simp only [Result.andThen_ok,Sem.run_pure,Oper.upon_value]
  rw [hk] at h1
  refine hn.at _ _ w M h1 ?_ (by rw [z1w,z4o]) (by rw [z5b]; exact hd)
  rw [z1w]
  exact R.putV (s:=.val .bool _) ⟨_,rfl,.inr ⟨rfl,rfl⟩⟩ (z3g _ _) hin
 unfold za2 at h
 split at h
 ·rename_i t x y hop
  obtain ⟨w',σ',M',w2,ok2,O2,hc,h1,h2,h3⟩:=z1bo (P:=P) R rfl T h
  unfold Oper.wp execOp
  rw [hop]
  simp only [Sem.run_bind,h1,Result.andThen_ok,Sem.run_pure]
  refine hn _ _ _ hc _ _ w' M' h2 ?_ (by rw [z1w,z4o]) (by rw [z5b]; exact hd)
  rw [z1w]
  exact h3.putUn undef hin
 ·rename_i args ts hop
  split at h
  ·rename_i x y t tx hargs hts
   have ha:args=#[x,y]:=by apply Array.ext'; rw [hargs]
   have ht:ts=#[t,tx]:=by apply Array.ext'; rw [hts]
   obtain ⟨v,w',σ',M',w2,ok2,O2,hc,h1,h2,h3⟩:=z1bv (P:=P) (ty:=o.type) R rfl T hin h
   unfold Oper.wp execOp
   rw [hop,ha,ht]
   simp only [resolve,invoke,builtin,Sem.run_bind,Sem.run_pure,Result.andThen_ok]
   have hm:(#[x,y].map a.eval)=#[a.eval x,a.eval y]:=by simp
   rw [hm,h1]
   simp only [Result.andThen_ok,Oper.upon_value]
   refine hn _ _ _ hc _ _ w' M' h2 ?_ (by rw [z1w,z4o]) (by rw [z5b]; exact hd)
   rw [z1w]
   exact h3
  ·cases h
 ·rename_i args ts hop
  split at h
  ·rename_i x t hargs hts
   have ha:args=#[x]:=by apply Array.ext'; rw [hargs]
   have ht:ts=#[t]:=by apply Array.ext'; rw [hts]
   obtain ⟨w',σ',M',h1,h2,h3⟩:=z1bx (P:=P) (ty:=o.type) R rfl T h
   unfold Oper.wp execOp
   rw [hop,ha,ht]
   simp only [resolve,invoke,builtin,Sem.run_bind,Sem.run_pure,Result.andThen_ok]
   have hm:(#[x].map a.eval)=#[a.eval x]:=by simp
   rw [hm,h1]
   simp only [Result.andThen_ok,Oper.upon_value]
   refine hn.at _ _ w' M' h2 ?_ (by rw [z1w,z4o]) (by rw [z5b]; exact hd)
   rw [z1w]
   exact h3.putUn (.tuple #[]) hin
  ·cases h
 ·rename_i bt bn bp hop
  refine zri R T EQ S hin hd h fun w2 ok2 O2 hc σ1 a1 w1 M1 h1 R1 hn1 hd1=>?_
  obtain ⟨σ2,M2,h2,R2⟩:=z1c4 R1 h1
  exact hn _ _ _ hc _ _ w1 M2 h2 R2 hn1 hd1
 ·rename_i xt x yt hop
  exact nil hop (.inl rfl) h (fun b=>by simp)
 ·rename_i xt x yt hop
  exact nil hop (.inr rfl) h (fun b=>by simp)
 ·rename_i f args ts hop
  split at h
  ·exact zri R T EQ S hin hd h hn
  ·rename_i g c hk
   obtain ⟨w1,ok1,O1,σ1,M1,hc,h1,R1⟩:=zia (c:=c) _ _ R h
   exact (K.chg hc) _ _ .refl hk R1 hop hin hd h1 (hn.chg hc)
 ·exact zri R T EQ S hin hd h hn

theorem zwn (R:Rep E w0 ok O σ tm w M) {d:Tmp} {b:Bool} (h:lk σ.sl d=some (.val .bool b)):tm[d]?=some (.bool b):=by
 obtain ⟨u,h1,cs,h2,h3⟩:=R.slots d _ h
 have:=zhs h2 (h3:z1n .bool u cs)
 rw [h1,this]

theorem zrj {R0:Type} {res:R0} (R:Rep E w0 ok O σ tm w M) {all:List Oper} {i:Nat} {o:Oper} {k:St→Option R0} (h:zqr all i o σ k=some res):∃ σ',k σ'=some res∧Rep E w0 ok O σ' tm w M:=by
 unfold zqr at h
 cases hg:zk7 all i <;> rw [hg] at h
 ·exact ⟨σ,h,R⟩
 ·simp only [cond_true] at h
  split at h
  ·rename_i d hd
   split at h
   ·rename_i b hb
    have hv:=zwn R hb
    split at h
    ·rename_i hbt
     subst hbt
     exact ⟨_,h,R.reput hv ⟨_,rfl,.inr ⟨rfl,rfl⟩⟩ (z3g _ _)⟩
    ·rename_i hbf
     have:b=false:=by simpa using hbf
     subst this
     exact ⟨_,h,R.reput hv ⟨_,rfl,.inr ⟨rfl,rfl⟩⟩ (z3g _ _)⟩
   ·cases h
  ·cases h

theorem zkx {R0:Type} {res:R0} (R:Rep E w0 ok O σ tm w M) {all:List Oper} {o:Oper} {yes no:Option R0} (h:z4j all o σ yes no=some res) :
  (Region.wanted o (yielded all.toArray tm)=true∧yes=some res)∨(Region.wanted o (yielded all.toArray tm)=false∧no=some res):=by
 unfold z4j at h
 split at h
 ·rename_i hg; exact .inl ⟨by simp [Region.wanted,hg],h⟩
 ·rename_i g want hg
  split at h
  ·rename_i d hd
   split at h
   ·rename_i b hb
    have hv:=zwn R hb
    have hy:yielded all.toArray tm g=some b:=by
     unfold za3 at hd
     split at hd
     ·rename_i q hq
      have:all.toArray[g]?=some q:=by simpa using hq
      simp [yielded,this,hd,hv]
     ·cases hd
    split at h
    ·rename_i e; exact .inl ⟨by simp [Region.wanted,hg,hy,e],h⟩
    ·rename_i e; exact .inr ⟨by simp [Region.wanted,hg,hy,e],h⟩
   ·rename_i hb
    obtain ⟨u,h1,vs,h2,h3⟩:=R.slots d _ hb
    have hy:yielded all.toArray tm g=none:=by
     unfold za3 at hd
     split at hd
     ·rename_i q hq
      have:all.toArray[g]?=some q:=by simpa using hq
      simp [yielded,this,hd,h1,h2]
     ·cases hd
    exact .inr ⟨by simp [Region.wanted,hg,hy],h⟩
   ·cases h
  ·cases h

theorem zrk [Glob P] {R0:Type} {res:R0} {w0:World} {ok O:Nat→Prop} (T:zi P E.ti=true) (EQ:z2j P E) (S:SpecOK P E w0 O) (K:z3h P E w0 O) {all:List Oper} {n:Nat} (hB:∀ o∈all,∀ d,o.dst=some d→d<n) {k:St→Option R0} {Q:Exit→Act→World→Prop} (hQ:z1z E w0 ok O res n k (Q .normal)) :
  ∀ (l:List Oper) (i:Nat) (σ:St) (a:Act) (w:World) (M:Map),all.drop i=l→z6w E all i l σ k=some res→Rep E w0 ok O σ a.tmps w M→a.tmps.size=n→a.defers=[]→wpOps P all.toArray Q (List.range' i l.length) a w
 | [],i,σ,a,w,M,hl,h,R,hn,hd=>by
  simp only [List.length_nil,List.range'_zero,wpOps]
  exact hQ.at σ a w M h R hn hd
 | o::l,i,σ,a,w,M,hl,h,R,hn,hd=>by
  have hi:all[i]?=some o:=by
   have:(all.drop i)[0]?=some o:=by rw [hl]; rfl
   rwa [List.getElem?_drop,Nat.add_zero] at this
  have hl':all.drop (i+1)=l:=by
   have:(all.drop i).drop 1=l:=by rw [hl]; rfl
   rwa [List.drop_drop] at this
  have hia:all.toArray[i]?=some o:=by simpa using hi
  have hin:inB o.dst a.tmps:=fun d hd=>by rw [hn]; exact hB o (List.mem_of_getElem? hi) d hd
  rw [List.length_cons,List.range'_succ]
  simp only [wpOps,hia]
  simp only [z6w] at h
  rcases zkx R h with ⟨hw,h⟩ | ⟨hw,h⟩
  ·rw [if_pos hw]
   refine .inl (zwm R T EQ S K hin hd h ?_)
   intro w2 ok2 O2 hc σ1 a1 w1 M1 h1 R1 hn1 hd1
   obtain ⟨σ2,h2,R2⟩:=zrj R1 h1
   exact zrk T EQ (S.chg hc) (K.chg hc) hB (hQ.chg hc) l (i+1) σ2 a1 w1 M1 hl' h2 R2 (by rw [hn1,hn]) hd1
  ·rw [if_neg (by rw [hw]; simp)]
   refine zrk T EQ S K hB hQ l (i+1) _ _ w M hl' h ?_ (by rw [z1w,z4o,hn]) (by rw [z5b]; exact hd)
   rw [z1w]
   exact R.putSkip hin
end

section
variable {P : Program} {E : Env} {w0 : World} {ok O : Nat → Prop} {σ σ' : St} {tm : Array Value} {w w' : World} {M : Map} {a : Act}

abbrev hdrL {e:TypeId} {t:Ty} (l:L (.sl e t)):Value:=.slice (l.1.map fun g=>⟨g,0,none⟩) l.2.2.length l.2.1

theorem z1c5 {R0:Type} {res:R0} {tx e:TypeId} {u:Ty} {b:Operand} (hf:u.flat=true) {c:St→List u.T→Option R0} (h:z8p E σ tx e u b c=some res) :
  ∃ ys,z8p E σ tx e u b (fun σ1 ys=>some (σ1,ys))=some (σ,ys)∧c σ ys=some res:=by
 unfold z8p at h ⊢
 split at h
 ·rename_i s hs
  simp only [hs,hf,cond_true] at h ⊢
  rw [z18] at h ⊢
  obtain ⟨v,h1,h2⟩:=Option.bind_eq_some_iff.1 h
  rw [h1,Option.bind_some]
  obtain ⟨vt,vx⟩:=v
  simp only [] at h2 ⊢
  split at h2
  ·cases hb:E.isStr tx <;> rw [hb] at h2
   ·cases h2
   ·simp only [cond_true] at h2 ⊢
    rw [z5l] at h2 ⊢
    obtain ⟨ys,h3,h4⟩:=Option.bind_eq_some_iff.1 h2
    exact ⟨ys,by rw [h3]; rfl,h4⟩
  ·cases hb:E.isSl tx <;> rw [hb] at h2
   ·cases h2
   ·simp only [cond_true] at h2 ⊢
    rw [z5l] at h2 ⊢
    obtain ⟨ys,h3,h4⟩:=Option.bind_eq_some_iff.1 h2
    exact ⟨ys,by rw [h3]; rfl,h4⟩
  ·cases h2
 ·cases h

theorem z1c6 {F:Frz} {e e2:TypeId} {u:Ty} {l:L (.sl e (.sl e2 u))} {n g:Nat} {l0 l1:L (.sl e2 u)} (hf:u.flat=true) (hh:holds F w (.sl e (.sl e2 u)) l) (hp:plain w (.sl e (.sl e2 u)) l) (hnd:(z7 (.sl e (.sl e2 u)) l).Nodup) (hg:l.1=some g) (h0:l.2.2[n]?=some l0)
  {w1 w2:World} (h1:holds F w1 (.sl e2 u) l1) (p1:plain w1 (.sl e2 u) l1) (hb:l1.1=l0.1∨l1.1=some w.heap.size) (hk:Kept (fun k=>l0.1=some k) w w1) {cur:Array Value} {fz:Nat×Nat} (hc:w.heap[g]?=some (.cells cur e fz))
  (h2:w2.heap[g]?=some (.cells (cur.toList.take n++[hdrL l1]++cur.toList.drop (n+1)).toArray e fz)) (h3:∀ k,k≠g→w2.heap[k]?=w1.heap[k]?) :
  holds F w2 (.sl e (.sl e2 u)) (l.1,l.2.1,l.2.2.set n l1)∧plain w2 (.sl e (.sl e2 u)) (l.1,l.2.1,l.2.2.set n l1)∧(z7 (.sl e (.sl e2 u)) (l.1,l.2.1,l.2.2.set n l1)).Nodup ∧
  ∀ k∈z7 (.sl e (.sl e2 u)) (l.1,l.2.1,l.2.2.set n l1),k∈z7 (.sl e (.sl e2 u)) l∨k=w.heap.size:=by
 have hnf:∀ y:L (.sl e2 u),z7 (.sl e2 u) y=y.1.toList:=fun y=>by
  have:y.2.2.flatMap (z7 u)=[]:=List.flatMap_eq_nil_iff.2 fun z _=>zah z hf
  simp only [z7,this,List.append_nil]
 obtain ⟨hlt,hx0⟩:=List.getElem?_eq_some_iff.1 h0
 have hsplit:l.2.2=l.2.2.take n++l0::l.2.2.drop (n+1):=by
  rw [← hx0,← List.drop_eq_getElem_cons hlt,List.take_append_drop]
 have hset:l.2.2.set n l1=l.2.2.take n++l1::l.2.2.drop (n+1):=by rw [List.set_eq_take_append_cons_drop,if_pos hlt]
 have bl:z7 (.sl e (.sl e2 u)) l=g::((l.2.2.take n).flatMap (z7 (.sl e2 u))++(l0.1.toList++(l.2.2.drop (n+1)).flatMap (z7 (.sl e2 u)))):=by
  conv=>lhs; unfold z7; rw [hg,hsplit]
  simp [hnf l0]
 have bl':z7 (.sl e (.sl e2 u)) (l.1,l.2.1,l.2.2.set n l1)=g::((l.2.2.take n).flatMap (z7 (.sl e2 u))++(l1.1.toList++(l.2.2.drop (n+1)).flatMap (z7 (.sl e2 u)))):=by
  conv=>lhs; unfold z7; simp only []; rw [hg,hset]
  simp [hnf l1]
 have hall:∀ k∈z7 (.sl e (.sl e2 u)) l,k<w.heap.size:=fun k hk=>z1l hh k hk
 have hne:∀ k∈(l.2.2.take n).flatMap (z7 (.sl e2 u))++(l.2.2.drop (n+1)).flatMap (z7 (.sl e2 u)),k≠g∧l0.1≠some k∧k<w.heap.size:=by
  intro k hk
  rw [bl] at hnd
  obtain ⟨n1,n2⟩:=List.nodup_cons.1 hnd
  obtain ⟨n3,n4,n5⟩:=List.nodup_append.1 n2
  obtain ⟨n6,n7,n8⟩:=List.nodup_append.1 n4
  have hmem:k∈z7 (.sl e (.sl e2 u)) l:=by
   rw [bl]
   rcases List.mem_append.1 hk with h | h
   ·exact List.mem_cons_of_mem _ (List.mem_append.2 (.inl h))
   ·exact List.mem_cons_of_mem _ (List.mem_append.2 (.inr (List.mem_append.2 (.inr h))))
  refine ⟨fun he=>?_,fun he=>?_,hall k hmem⟩
  ·subst he
   rcases List.mem_append.1 hk with h | h
   ·exact n1 (List.mem_append.2 (.inl h))
   ·exact n1 (List.mem_append.2 (.inr (List.mem_append.2 (.inr h))))
  ·rcases List.mem_append.1 hk with h | h
   ·exact n5 k h k (List.mem_append.2 (.inl (by rw [he]; simp))) rfl
   ·exact n8 k (by rw [he]; simp) k h rfl
 have same:∀ j∈(l.2.2.take n).flatMap (z7 (.sl e2 u))++(l.2.2.drop (n+1)).flatMap (z7 (.sl e2 u)),w2.heap[j]?=w.heap[j]?:=fun j hj=>by
  obtain ⟨a1,a2,a3⟩:=hne j hj
  rw [h3 j a1]; exact hk.block j a3 a2
 have gl1:∀ k,l1.1=some k→k≠g:=by
  intro k hk2 he
  subst he
  rcases hb with hb | hb
  ·rw [hb] at hk2
   rw [bl] at hnd
   exact (List.nodup_cons.1 hnd).1 (List.mem_append.2 (.inr (List.mem_append.2 (.inl (by rw [hk2]; simp)))))
  ·rw [hb] at hk2
   cases hk2
   exact Nat.lt_irrefl _ (hall _ (by rw [bl]; simp))
 have mv1:∀ k∈z7 (.sl e2 u) l1,w2.heap[k]?=w1.heap[k]?:=fun k hk=>by
  rw [hnf l1] at hk
  exact h3 k (gl1 k (by simpa using hk))
 have elem:∀ y∈l.2.2.set n l1,y=l1∨(y∈l.2.2∧∀ k∈z7 (.sl e2 u) y,w2.heap[k]?=w.heap[k]?):=by
  intro y hy
  rw [hset] at hy
  rcases List.mem_append.1 hy with hy | hy
  ·exact .inr ⟨List.mem_of_mem_take hy,fun k hk=>same k (List.mem_append.2 (.inl (List.mem_flatMap.2 ⟨y,hy,hk⟩)))⟩
  ·rcases List.mem_cons.1 hy with rfl | hy
   ·exact .inl rfl
   ·exact .inr ⟨List.mem_of_mem_drop hy,fun k hk=>same k (List.mem_append.2 (.inr (List.mem_flatMap.2 ⟨y,hy,hk⟩)))⟩
 refine ⟨?_,?_,?_,?_⟩
 ·obtain ⟨q1,q2⟩:=hh
  rw [hg] at q1
  obtain ⟨cur',fz',c1,c2,c3,c4,c5,c6⟩:=q1
  rw [hc] at c1
  cases c1
  refine ⟨?_,fun y hy=>?_⟩
  ·simp only [hg]
   have hcells:∀ z:List (L (.sl e2 u)),z.flatMap (za (.sl e2 u))=z.map hdrL:=fun z=>by
    induction z with
    | nil=>rfl
    | cons y z ih=>rw [List.flatMap_cons,ih]; rfl
   have hsz:(Ty.sl e2 u).sz=1:=rfl
   rw [hsz] at c4 c5 c6
   rw [hcells] at c5
   have hncur:n<cur.toList.length:=by
    rw [Array.length_toList]; omega
   have hcs:cur.toList.take n++[hdrL l1]++cur.toList.drop (n+1)=cur.toList.set n (hdrL l1):=by
    rw [List.set_eq_take_append_cons_drop,if_pos hncur]; simp
   refine ⟨_,fz,h2,by simpa using c2,c3,?_,?_,?_⟩
   ·rw [hcs,hsz]; simpa using c4
   ·rw [hcs,hsz,hcells,List.map_set,← c5]
    simp only [List.length_set]
    rw [List.take_set]
   ·rw [hsz]; simpa using c6
  ·rcases elem y hy with rfl | ⟨hy,hk⟩
   ·exact z24 mv1 h1
   ·exact z24 hk (q2 y hy)
 ·obtain ⟨q1,q2⟩:=hp
  refine ⟨fun b hb2=>?_,fun y hy=>?_⟩
  ·have hbg:b=g:=by
    have:l.1=some b:=hb2
    rw [hg] at this; cases this; rfl
   subst hbg
   obtain ⟨cur',e',c1,c2⟩:=q1 b hg
   rw [hc] at c1
   cases c1
   refine ⟨_,e,h2,?_⟩
   have hncur:n<cur.toList.length:=by
    obtain ⟨q3,_⟩:=hh
    rw [hg] at q3
    obtain ⟨cur',fz',d1,d2,d3,d4,d5,d6⟩:=q3
    rw [hc] at d1
    cases d1
    have hsz:(Ty.sl e2 u).sz=1:=rfl
    rw [hsz] at d4
    rw [Array.length_toList]; omega
   have hcs:cur.toList.take n++[hdrL l1]++cur.toList.drop (n+1)=cur.toList.set n (hdrL l1):=by
    rw [List.set_eq_take_append_cons_drop,if_pos hncur]; simp
   rw [hcs]
   simpa using c2
  ·rcases elem y hy with rfl | ⟨hy,hk⟩
   ·exact z25 mv1 p1
   ·exact z25 hk (q2 y hy)
 ·rw [bl'] 
  have hnd2:=hnd
  rw [bl] at hnd2
  rcases hb with hb | hb
  ·rw [hb]; exact hnd2
  ·rw [hb]
   obtain ⟨n1,n2⟩:=List.nodup_cons.1 hnd2
   obtain ⟨n3,n4,n5⟩:=List.nodup_append.1 n2
   obtain ⟨n6,n7,n8⟩:=List.nodup_append.1 n4
   have hfr:∀ k∈(l.2.2.take n).flatMap (z7 (.sl e2 u))++(l.2.2.drop (n+1)).flatMap (z7 (.sl e2 u)),k≠w.heap.size:=fun k hk=>Nat.ne_of_lt (hne k hk).2.2
   refine List.nodup_cons.2 ⟨fun hm=>?_,List.nodup_append.2 ⟨n3,List.nodup_append.2 ⟨by simp,n7,fun x hx z hz he=>?_⟩,fun x hx z hz he=>?_⟩⟩
   ·rcases List.mem_append.1 hm with hm | hm
    ·exact n1 (List.mem_append.2 (.inl hm))
    ·rcases List.mem_append.1 hm with hm | hm
     ·have:g=w.heap.size:=by simpa using hm
      exact Nat.lt_irrefl _ (this▸hall g (by rw [bl]; simp))
     ·exact n1 (List.mem_append.2 (.inr (List.mem_append.2 (.inr hm))))
   ·have hx:x=w.heap.size:=by simpa using hx
    exact hfr z (List.mem_append.2 (.inr hz)) (he.symm.trans hx)
   ·rcases List.mem_append.1 hz with hz | hz
    ·have hz:z=w.heap.size:=by simpa using hz
     exact hfr x (List.mem_append.2 (.inl hx)) (he.trans hz)
    ·exact n5 x hx z (List.mem_append.2 (.inr hz)) he
 ·intro k hk
  rw [bl'] at hk
  rw [bl]
  rcases List.mem_cons.1 hk with rfl | hk
  ·exact .inl (by simp)
  ·rcases List.mem_append.1 hk with hk | hk
   ·exact .inl (List.mem_cons_of_mem _ (List.mem_append.2 (.inl hk)))
   ·rcases List.mem_append.1 hk with hk | hk
    ·rcases hb with hb | hb
     ·rw [hb] at hk
      exact .inl (List.mem_cons_of_mem _ (List.mem_append.2 (.inr (List.mem_append.2 (.inl hk)))))
     ·rw [hb] at hk
      exact .inr (by simpa using hk)
    ·exact .inl (List.mem_cons_of_mem _ (List.mem_append.2 (.inr (List.mem_append.2 (.inr hk)))))

theorem zwo {d:Nat} {x:Operand} (h:ze4 d x=true):∀ d',some d=some d'→x≠.tmp d':=by
 rintro d' hd' rfl
 cases hd'
 simp [ze4] at h

theorem z1c7 {R0:Type} {res:R0} (R:Rep E w0 ok O σ a.tmps w M) (T:zi P E.ti=true) {d1 d2:Nat} (hd1:d1<a.tmps.size) (hd2:d2<a.tmps.size) (hne:d1≠d2) {x:Operand} {j n:Nat} (hx:opd σ x=some (.ref j [.ix n]))
  {t tx xt t':TypeId} {p q y:Operand} {k:St→Option R0} (h:zqt E σ d1 d2 t tx xt t' j n p q y k=some res) :
  ∀ (ty1:TypeId) (s1:String) (f1:Array Edge) (ty2:TypeId) (s2:String) (f2:Array Edge) (ty3:TypeId) (s3:String) (f3:Array Edge) {K:Act→World→Prop} {Q:Exit→Act→World→Prop},
   (∀ σ' w' M' (a':Act),k σ'=some res→Rep E w0 ok O σ' a'.tmps w' M'→a'.tmps.size=a.tmps.size→a'.defers=a.defers→K a' w') →
   Oper.wp P ⟨some d1,.call ⟨.builtin .append,#[x,y],#[t,tx]⟩,ty1,s1,f1,none⟩ a w (fun a1 w1=>Oper.wp P ⟨some d2,.indexAddr xt p q,ty2,s2,f2,none⟩ a1 w1 (fun a2 w2=>Oper.wp P ⟨none,.store t' (.tmp d2) (.tmp d1),ty3,s3,f3,none⟩ a2 w2 K Q) Q) Q:=by
 intro ty1 s1 f1 ty2 s2 f2 ty3 s3 f3 K Q hK
 unfold zqt at h
 split at h
 ·rename_i e e' u b ht
  split at h
  ·rename_i i z hi hz
   cases hb:(u.flat&&(Nat.beq (E.tyOf t').sz 1&&Nat.beq (E.elemSz xt) 1)) <;> rw [hb] at h
   ·cases h
   simp only [Bool.and_eq_true] at hb
   obtain ⟨hf,z1,z2⟩:=hb
   have z1:=Nat.eq_of_beq_eq_true z1
   have z2:=Nat.eq_of_beq_eq_true z2
   simp only [cond_true] at h
   obtain ⟨ys,g1,h⟩:=z1c5 hf h
   obtain ⟨hu,hty⟩:=zhr T ht (fun v hv=>by subst hv; cases hf)
   have hue:u=E.tyOf e:=by injection hty
   have he:e'=e:=by injection hty
   subst he
   have info:∃ (ti:TypeInfo) (v:Value),P.info? e'=some ti∧ti.zero=some v∧ti.size=u.sz∧v.cells.size=u.sz∧0<u.sz∧0<ti.bytes∧ti.bytes=i.bytes:=by
    subst hue
    obtain ⟨ti,v,i1,i2,i3,i4⟩:=zbv T hz
    obtain ⟨⟨ti',j1,j2,j3,j4,j5⟩,_⟩:=(z2p T hi (by
     intro hsh
     have:=zeh T hi
     unfold za8 at this
     rw [hsh] at this
     simp only [beq_iff_eq] at this
     have h9:E.tyOf e'=.un:=by rw [Env.tyOf,hi]; exact this
     have:=z74 _ hz
     rw [h9] at this
     exact this rfl)).1
    rw [i1] at j1
    cases j1
    exact ⟨ti,v,i1,i2,i4,by rw [← Array.length_toList,i3,zi3 _ hz],Nat.pos_of_ne_zero (z74 _ hz),j4,j3⟩
   obtain ⟨ti,v,i1,i2,i4,hvs,hpos,j4,j3⟩:=info
   split at h
   ·rename_i re e2 u2 xs hr
    obtain ⟨l,hl,hel,hh,hnd,hpl⟩:∃ l:L (.sl re (.sl e2 u2)),M.loc j=⟨.sl re (.sl e2 u2),l⟩∧erase (.sl re (.sl e2 u2)) l=xs∧holds (Rd w0 ok) w (.sl re (.sl e2 u2)) l∧(z7 (.sl re (.sl e2 u2)) l).Nodup∧plain w (.sl re (.sl e2 u2)) l:=by
     obtain ⟨l,a1,a2,a3,a4,a5⟩:=R.rows j _ hr
     exact ⟨l,a1,a2,a3,a4,a5 rfl⟩
    obtain ⟨xx0,hxx,h⟩:=Option.bind_eq_some_iff.1 h
    unfold zp at h
    split at h
    ·rename_i hcast
     cases hcast
     simp only [] at h
     split at h
     ·rename_i hby
      split at h
      ·rename_i j' ik m hp hq
       cases hb2:(Nat.beq j j'&&(ze4 d1 p&&ze4 d1 q)) <;> rw [hb2] at h
       ·cases h
       simp only [Bool.and_eq_true] at hb2
       obtain ⟨c1,c2,c3⟩:=hb2
       have c1:=Nat.eq_of_beq_eq_true c1
       subst c1
       simp only [cond_true] at h
       split at h
       ·rename_i hm
        simp only [dif_pos] at h
        obtain ⟨hm0,hmn⟩:=hm
        -- the element
        obtain ⟨⟨cs,⟨e1,t1,l0,k1,rfl⟩,k3⟩,k4⟩:=z1d R rfl hx
        rw [hl] at k1
        have k1:(l.2.2[n]?).bind (fun z=>zz (.sl e' u) z [])=some ⟨.sl e1 t1,l0⟩:=k1
        obtain ⟨y0,k5,k6⟩:=Option.bind_eq_some_iff.1 k1
        have k6:some (⟨.sl e' u,y0⟩:Loc)=some ⟨.sl e1 t1,l0⟩:=by rw [← k6]; exact (z3a _ _).symm
        cases k6
        have hxx0:xx0=erase (.sl e' u) y0:=by
         rw [← hel] at hxx
         have hxx:(l.2.2.map (erase (.sl e' u)))[n]?=some xx0:=hxx
         rw [List.getElem?_map,k5] at hxx
         cases hxx; rfl
        subst hxx0
        have hmem:=List.mem_of_getElem? k5
        have hlt:=(List.getElem?_eq_some_iff.1 k5).1
        have hax:a.eval x=hdrL y0:=by
         rcases k3 with ⟨k7,_⟩ | ⟨_,k7⟩
         ·cases k7
         ·simp only [za,List.cons.injEq,and_true] at k7; exact k7.symm
        obtain ⟨⟨cs,⟨e3,t3,l3,m1,rfl⟩,m3⟩,m4⟩:=z1d R rfl hp
        rw [hl,z3a] at m1
        cases m1
        have hap:a.eval p=hdrL l:=by
         rcases m3 with ⟨k7,_⟩ | ⟨_,k7⟩
         ·cases k7
         ·simp only [za,List.cons.injEq,and_true] at k7; exact k7.symm
        have haq:=za9 R rfl hq
        obtain ⟨σ1,ls,g2,g3⟩:=zkv (P:=P) R rfl T g1
        cases g2
        have hnb:∀ zs:List (L u),zs.flatMap (z7 u)=[]:=fun zs=>List.flatMap_eq_nil_iff.2 fun z _=>zah z hf
        have hby2:(y0.2.2.length+ls.length)*ti.bytes≤LIM:=by
         rw [j3]; simpa [erase] using hby
        obtain ⟨w1,l1,r1,r2,r3,r4,r5,r6⟩:=zwd (P:=P) (ty:=ty1) hu i1 i2 i4 hvs hpos (hh.2 y0 hmem) (hpl.2 y0 hmem) g3.src g3.ho (fun g _=>by rw [hnb,hnb]; simp) hby2 j4
        obtain ⟨g,hg⟩:=zhw hh hlt
        have hh1:=hh.1
        rw [hg] at hh1
        obtain ⟨cur,fz,d1',d2',d3',d4',d5',d6'⟩:=hh1
        have hsz:(Ty.sl e' u).sz=1:=rfl
        rw [hsz,Nat.mul_one] at d4' d6'
        have hgl:g<w.heap.size:=(Array.getElem?_eq_some_iff.1 d1').1
        have hgne:¬ y0.1=some g:=fun he=>by
         have hnd2:=hnd
         simp only [z7,hg,Option.toList_some,List.singleton_append,List.cons_append,List.nil_append,List.nodup_cons] at hnd2
         exact hnd2.1 (List.mem_flatMap.2 ⟨y0,hmem,by simp [z7,he]⟩)
        have hw1g:w1.heap[g]?=some (.cells cur re fz):=(r6.block g hgl hgne).trans d1'
        obtain ⟨w2,s1',s2',s3',s4'⟩:=zi8 (P:=P) T (t:=t') (v:=hdrL l1) (cs:=[hdrL l1]) (g:=g) (o:=n) (by rw [z1]; simp) (by simp [Value.cells]) (by rw [z1]; rfl) (by simp [Value.oneCell']) hw1g (by simp only [List.length_singleton]; omega) (by simp only [List.length_singleton]; rcases d6' with h | h; exact .inl h; exact .inr (by omega))
        -- the state behind it
        obtain ⟨q1,q2,q3,q4⟩:=z1c6 (w2:=w2) hf hh hpl hnd hg k5 r3 r4 r5 r6 d1' (by simpa using s2') s3'
        obtain ⟨R',kS,kB⟩:=R.killIn j 0
        have hset:zn (.sl re (.sl e' u)) l [.ix n] (.sl e' u) l1=some (l.1,l.2.1,l.2.2.set n l1):=by
         show (l.2.2[n]?).bind (fun z=>(zn (.sl e' u) z [] (.sl e' u) l1).map _)=_
         rw [k5,Option.bind_some,z3s]
         rfl
        have hfree:Free w0 ok O (σ.killIn j 0) M [w.heap.size]:=by
         refine ⟨by simp,fun k hk=>?_,fun i hi k hk=>?_,fun i hi hk=>?_⟩
         ·have hk:k=w.heap.size:=by simpa using hk
          subst hk
          exact ⟨fun h=>Nat.lt_irrefl _ (R.ok_lt h),.inr R.kept.size⟩
         ·have hk:k=w.heap.size:=by simpa using hk
          subst hk
          obtain ⟨r,hr⟩:=hi
          obtain ⟨l2,g1,_,g3,_⟩:=R'.rows i r hr
          rw [g1]
          exact fun hk=>Nat.lt_irrefl _ (z1l g3 _ hk)
         ·obtain ⟨b,hb⟩:=hi
          obtain ⟨cs,_,g2,_⟩:=R'.boxes i b hb
          have:=(Array.getElem?_eq_some_iff.1 g2).1
          have hk:M.blk i=w.heap.size:=by simpa using hk
          omega
        have hkept:Kept (fun k=>k∈z7 (.sl re (.sl e' u)) l) w w2:=by
         refine Kept.trans (O:=fun k=>k∈z7 (.sl re (.sl e' u)) l) (O':=fun k=>k=g) ⟨r6.os,r6.tape,r6.output,r6.size,fun k hk hn=>r6.block k hk fun he=>hn ?_⟩ s4' fun k _ hk=>?_
         ·exact List.mem_append.2 (.inr (List.mem_flatMap.2 ⟨y0,hmem,by simp [z7,he]⟩))
         ·subst hk; exact List.mem_append.2 (.inl (by rw [hg]; simp))
        have R2:=R'.upd (w':=w2) (r:=⟨re,.sl e' u,xs,false⟩) (l:=l) (l':=(l.1,l.2.1,l.2.2.set n l1)) (bs:=[w.heap.size]) hr hl hkept q1 q3 (fun _=>q2) (by simp [za]) (fun k hk=>(q4 k hk).imp id fun h=>by simp [h]) hfree
         (fun s v hv p hp=>z44 _ _ [.ix n] _ _ _ p hset (by have:=kS s v hv p hp; simp only [ixs]; omega)) (fun i b hb p hp=>z44 _ _ [.ix n] _ _ _ p hset (by have:=kB i b hb p hp; simp only [ixs]; omega))
        have her:erase (.sl re (.sl e' u)) (l.1,l.2.1,l.2.2.set n l1)=xs.set n (List.append (erase (.sl e' u) y0) (ls.map (erase u))):=by
         rw [← hel]
         show (l.2.2.set n l1).map (erase (.sl e' u))=(l.2.2.map (erase (.sl e' u))).set n _
         rw [List.map_set]
         congr 1
         show l1.2.2.map (erase u)=_
         rw [r2,List.map_append]
         rfl
        simp only [] at R2
        rw [her] at R2
        -- the machine's three steps
        have hwp1:∀ {K:Act→World→Prop},K (a.put (some d1) (hdrL l1)) w1→Oper.wp P ⟨some d1,.call ⟨.builtin .append,#[x,y],#[t,tx]⟩,ty1,s1,f1,none⟩ a w K Q:=fun hK=>by
         unfold Oper.wp execOp
         simp only [resolve,invoke,builtin,Sem.run_bind,Sem.run_pure,Result.andThen_ok]
         have hm:(#[x,y].map a.eval)=#[a.eval x,a.eval y]:=by simp
         rw [hm,hax,r1]
         simp only [Result.andThen_ok,Oper.upon_value]
         exact hK
        refine hwp1 ?_
        have ep:(a.put (some d1) (hdrL l1)).eval p=hdrL l:=(Act.eval_put (zwo c2)).trans hap
        have eq:(a.put (some d1) (hdrL l1)).eval q=.int ik m:=(Act.eval_put (zwo c3)).trans haq
        have hwp2:∀ {K:Act→World→Prop},K ((a.put (some d1) (hdrL l1)).put (some d2) (.pointer (some ⟨g,n,none⟩))) w1→Oper.wp P ⟨some d2,.indexAddr xt p q,ty2,s2,f2,none⟩ (a.put (some d1) (hdrL l1)) w1 K Q:=fun hK=>by
         have hrun:=zhv (P:=P) T (by rw [z2]; simp:E.elemSz xt≠0) (ad:=⟨g,0,none⟩) (c:=l.2.1) (k:=ik) hm0 ((Int.toNat_lt hm0).1 (hmn▸hlt)) w1
         rw [z38,z2,Nat.mul_one,hmn] at hrun
         unfold Oper.wp execOp
         simp only [ep,eq,Sem.run_bind]
         rw [show hdrL l=.slice (some ⟨g,0,none⟩) l.2.2.length l.2.1 by simp [hdrL,hg]]
         rw [show (Instr.indexAt xt (.slice (some ⟨g,0,none⟩) l.2.2.length l.2.1) (.int ik m)).run P w1=.ok (.pointer (some ⟨g,n,none⟩)) w1 by simpa using hrun]
         simp only [Result.andThen_ok,Sem.run_pure,Oper.upon_value]
         exact hK
        refine hwp2 ?_
        have e1:((a.put (some d1) (hdrL l1)).put (some d2) (.pointer (some ⟨g,n,none⟩))).eval (.tmp d2)=.pointer (some ⟨g,n,none⟩):=by
         simp [Act.eval,Act.put,hd2]
        have e2:((a.put (some d1) (hdrL l1)).put (some d2) (.pointer (some ⟨g,n,none⟩))).eval (.tmp d1)=hdrL l1:=by
         rw [Act.eval_put (fun d hd=>by cases hd; intro h; cases h; exact hne rfl)]
         simp [Act.eval,Act.put,hd1]
        have hwp3:∀ {K:Act→World→Prop},K ((a.put (some d1) (hdrL l1)).put (some d2) (.pointer (some ⟨g,n,none⟩))) w2→Oper.wp P ⟨none,.store t' (.tmp d2) (.tmp d1),ty3,s3,f3,none⟩ ((a.put (some d1) (hdrL l1)).put (some d2) (.pointer (some ⟨g,n,none⟩))) w1 K Q:=fun hK=>by
         unfold Oper.wp execOp
         simp only [e1,e2,Sem.run_bind,s1',Result.andThen_ok,Sem.run_pure]
         exact hK
        refine hwp3 (hK _ w2 (z1o M j ⟨.sl re (.sl e' u),(l.1,l.2.1,l.2.2.set n l1)⟩) _ h ?_ ?_ ?_)
        ·rw [z1w,z1w]
         exact (R2.putUn (d:=some d1) _ (fun x hx=>by cases hx; exact hd1)).putUn (d:=some d2) _ (fun x hx=>by cases hx; rw [z4o]; exact hd2)
        ·rw [z1w,z1w,z4o,z4o]
        ·rw [z5b,z5b]
       ·cases h
      ·cases h
     ·cases h
    ·cases h
   ·cases h
  ·cases h
 ·cases h
end

section
variable {P : Program} {E : Env} {w0 : World} {ok O : Nat → Prop} {σ σ' : St} {tm : Array Value} {w w' : World} {M : Map} {a : Act}

def z5e (σ:St) (o:Oper) (x:Out):St:=(σ.add x.2.1 x.2.2).put o.dst x.1
def zib (E:Env) (all:List Oper) (p i:Nat) (σ:St) (o:Oper) (x:Out):Prop :=
 (z4j all o (σ.hide (z3n all p i)) (some true) (some false)=some true∧zv E (σ.hide (z3n all p i)) o=some x∧σ.fresh (z12 o) x.2.1 x.2.2=true) ∨
 (z4j all o (σ.hide (z3n all p i)) (some true) (some false)=some false∧x=(.tup .nl,[],[]))
inductive Trace (E:Env) (all:List Oper):List Nat→Nat→List Oper→St→List Out→St→Prop where
 | nil (i:Nat) (l:List Oper) (σ:St):Trace E all [] i l σ [] σ
 | cons {p:Nat} {ps:List Nat} {i:Nat} {o:Oper} {l:List Oper} {σ σ':St} {x:Out} {xs:List Out}:zib E all p i σ o x→Trace E all ps (i+1) l (z5e σ o x) xs σ'→Trace E all (p::ps) i (o::l) σ (x::xs) σ'

theorem z1c8 {R0:Type} {res:R0} {all:List Oper} {o:Oper} {yes no:Option R0} (h:z4j all o σ yes no=some res) :
  (z4j all o σ (some true) (some false)=some true∧yes=some res)∨(z4j all o σ (some true) (some false)=some false∧no=some res):=by
 cases hg:o.guard with
 | none=>simp only [z4j,hg] at h ⊢; exact .inl ⟨trivial,h⟩
 | some gw =>
  obtain ⟨g,want⟩:=gw
  simp only [z4j,hg] at h ⊢
  cases hd:za3 all g with
  | none=>simp only [hd] at h; cases h
  | some d =>
   simp only [hd] at h ⊢
   split at h
   ·rename_i b hb
    by_cases e:b=want
    ·rw [if_pos e] at h; exact .inl ⟨by rw [if_pos e],h⟩
    ·rw [if_neg e] at h; exact .inr ⟨by rw [if_neg e],h⟩
   ·exact .inr ⟨rfl,h⟩
   ·cases h
theorem z1c9 {R0:Type} {res:R0} {all:List Oper} {i:Nat} {s:SV} {k:SV→Option R0} (h:zqs all i s k=some res):k s=some res:=by
 unfold zqs at h
 cases hg:zk7 all i <;> rw [hg] at h
 ·exact h
 ·simp only [cond_true] at h
  split at h
  ·split at h
   ·rename_i b hb; subst hb; exact h
   ·rename_i b hb
    have:b=false:=by simpa using hb
    subst this; exact h
  ·cases h

theorem zrl {R0:Type} {res:R0} {all:List Oper} {k:St→Option R0}:∀ (ps:List Nat) (i:Nat) (l:List Oper) (σ:St),ze6 E all ps i l σ k=some res →
  ∃ outs σ',Trace E all ps i l σ outs σ'∧outs.length=ps.length∧ps.length≤l.length∧ze5 E all (i+ps.length) (l.drop ps.length) (σ'.promAll E) k=some res
 | [],i,l,σ,h=>⟨[],σ,.nil i l σ,rfl,Nat.zero_le _,by simpa [ze6] using h⟩
 | p::ps,i,[],σ,h=>by cases h
 | p::ps,i,o::l,σ,h=>by
  simp only [ze6] at h
  rcases z1c8 h with ⟨hw,h⟩ | ⟨hw,h⟩
  ·rw [zqw] at h
   obtain ⟨out,h1,h2⟩:=Option.bind_eq_some_iff.1 h
   cases hf:σ.fresh (z12 o) out.2.1 out.2.2 <;> rw [hf] at h2
   ·cases h2
   ·simp only [cond_true] at h2
    obtain ⟨outs,σ',g1,g2,g3,g4⟩:=zrl ps (i+1) l _ (z1c9 h2)
    exact ⟨out::outs,σ',.cons (.inl ⟨hw,h1,hf⟩) g1,by simp [g2],by simp; exact g3,by rw [List.length_cons,List.drop_succ_cons,show i+(ps.length+1)=i+1+ps.length by omega]; exact g4⟩
  ·obtain ⟨outs,σ',g1,g2,g3,g4⟩:=zrl ps (i+1) l _ h
   exact ⟨(.tup .nl,[],[])::outs,σ',.cons (.inr ⟨hw,rfl⟩) g1,by simp [g2],by simp; exact g3,by rw [List.length_cons,List.drop_succ_cons,show i+(ps.length+1)=i+1+ps.length by omega]; exact g4⟩

structure Chars (base:St) (l:List Oper) (outs:List Out) (j:Nat) (σ:St):Prop where
 sl:∀ s v,lk σ.sl s=some v→lk base.sl s=some v∨∃ t o x,t<j∧l[t]?=some o∧outs[t]?=some x∧o.dst=some s∧v=x.1
 rows:∀ i r,lk σ.rows i=some r→lk base.rows i=some r∨∃ t x,t<j∧outs[t]?=some x∧lk x.2.1 i=some r
 bx:∀ i b,lk σ.bx i=some b→lk base.bx i=some b∨∃ t x,t<j∧outs[t]?=some x∧lk x.2.2 i=some b
 rows':∀ i,(∃ r,lk base.rows i=some r)→∃ r,lk σ.rows i=some r
 bx':∀ i,(∃ r,lk base.bx i=some r)→∃ r,lk σ.bx i=some r
 rowsO:∀ t x i,t<j→outs[t]?=some x→(∃ r,lk x.2.1 i=some r)→∃ r,lk σ.rows i=some r
 bxO:∀ t x i,t<j→outs[t]?=some x→(∃ r,lk x.2.2 i=some r)→∃ r,lk σ.bx i=some r

theorem z1ca {o:Oper} {x:Out} (s:Nat) (v:SV) (h:lk (z5e σ o x).sl s=some v):(o.dst=some s∧v=x.1)∨lk σ.sl s=some v:=by
 unfold z5e at h
 cases hd:o.dst with
 | none=>rw [hd] at h; exact .inr h
 | some d =>
  rw [hd] at h
  simp only [St.put,zr] at h
  split at h
  ·rename_i e; cases h; exact .inl ⟨by rw [e],rfl⟩
  ·exact .inr h
theorem zky {o:Oper} {x:Out}:(z5e σ o x).rows=x.2.1++σ.rows:=z71 _ _
theorem zkz {o:Oper} {x:Out}:(z5e σ o x).bx=x.2.2++σ.bx:=z61 _ _

theorem z1cb {all:List Oper}:∀ {ps:List Nat} {i:Nat} {l:List Oper} {σ:St} {outs:List Out} {σ':St},Trace E all ps i l σ outs σ' →
  (∀ j,j<outs.length→∃ σj o x p,l[j]?=some o∧outs[j]?=some x∧ps[j]?=some p∧zib E all p (i+j) σj o x∧Chars σ l outs j σj)∧Chars σ l outs outs.length σ':=by
 intro ps i l σ outs σ' h
 induction h with
 | nil i l σ=>exact ⟨fun j hj=>absurd hj (Nat.not_lt_zero _),⟨fun s v h=>.inl h,fun i r h=>.inl h,fun i b h=>.inl h,fun i h=>h,fun i h=>h,fun t x i ht=>absurd ht (Nat.not_lt_zero _),fun t x i ht=>absurd ht (Nat.not_lt_zero _)⟩⟩
 | @cons p ps i o l σ σ' x xs h1 h2 ih =>
  obtain ⟨ih1,ih2⟩:=ih
  have up:∀ {j σj},Chars (z5e σ o x) l xs j σj→Chars σ (o::l) (x::xs) (j+1) σj:=by
   intro j σj hc
   refine ⟨fun s v h=>?_,fun k r h=>?_,fun k b h=>?_,fun k hk=>hc.rows' k ?_,fun k hk=>hc.bx' k ?_,fun t x' k ht hx' hk=>?_,fun t x' k ht hx' hk=>?_⟩
   ·rcases hc.sl s v h with h | ⟨t,o',x',ht,h3,h4,h5,h6⟩
    ·rcases z1ca s v h with ⟨h3,h4⟩ | h
     ·exact .inr ⟨0,o,x,Nat.succ_pos _,rfl,rfl,h3,h4⟩
     ·exact .inl h
    ·exact .inr ⟨t+1,o',x',Nat.succ_lt_succ ht,h3,h4,h5,h6⟩
   ·rcases hc.rows k r h with h | ⟨t,x',ht,h4,h5⟩
    ·rw [zky,z2i] at h
     cases hq:lk x.2.1 k with
     | some r'=>rw [hq] at h; cases h; exact .inr ⟨0,x,Nat.succ_pos _,rfl,hq⟩
     | none=>rw [hq] at h; exact .inl h
    ·exact .inr ⟨t+1,x',Nat.succ_lt_succ ht,h4,h5⟩
   ·rcases hc.bx k b h with h | ⟨t,x',ht,h4,h5⟩
    ·rw [zkz,z2i] at h
     cases hq:lk x.2.2 k with
     | some r'=>rw [hq] at h; cases h; exact .inr ⟨0,x,Nat.succ_pos _,rfl,hq⟩
     | none=>rw [hq] at h; exact .inl h
    ·exact .inr ⟨t+1,x',Nat.succ_lt_succ ht,h4,h5⟩
   ·obtain ⟨r,hr⟩:=hk
    rw [zky,z2i,hr]
    cases lk x.2.1 k with
    | some r'=>exact ⟨r',rfl⟩
    | none=>exact ⟨r,rfl⟩
   ·obtain ⟨r,hr⟩:=hk
    rw [zkz,z2i,hr]
    cases lk x.2.2 k with
    | some r'=>exact ⟨r',rfl⟩
    | none=>exact ⟨r,rfl⟩
   ·cases t with
    | zero =>
     cases hx'
     obtain ⟨r,hr⟩:=hk
     exact hc.rows' k ⟨r,by rw [zky,z2i,hr]; rfl⟩
    | succ t=>exact hc.rowsO t x' k (Nat.lt_of_succ_lt_succ ht) hx' hk
   ·cases t with
    | zero =>
     cases hx'
     obtain ⟨r,hr⟩:=hk
     exact hc.bx' k ⟨r,by rw [zkz,z2i,hr]; rfl⟩
    | succ t=>exact hc.bxO t x' k (Nat.lt_of_succ_lt_succ ht) hx' hk
  refine ⟨fun j hj=>?_,up ih2⟩
  cases j with
  | zero=>exact ⟨σ,o,x,p,rfl,rfl,rfl,h1,⟨fun s v h=>.inl h,fun i r h=>.inl h,fun i b h=>.inl h,fun i h=>h,fun i h=>h,fun t x i ht=>absurd ht (Nat.not_lt_zero _),fun t x i ht=>absurd ht (Nat.not_lt_zero _)⟩⟩
  | succ j =>
   obtain ⟨σj,o',x',p',g1,g2,g3,g4,g5⟩:=ih1 j (by simpa using hj)
   exact ⟨σj,o',x',p',g1,g2,g3,by rw [show i+(j+1)=i+1+j by omega]; exact g4,up g5⟩

structure Done (base:St) (all:List Oper) (outs:List Out) (D:Nat→Prop) (σ:St):Prop where
 sl:∀ s v,lk base.sl s=some v→lk σ.sl s=some v
 out:∀ j o x d,D j→all[j]?=some o→outs[j]?=some x→o.dst=some d→lk σ.sl d=some x.1
 rows:∀ i r,lk base.rows i=some r→lk σ.rows i=some r
 rowsO:∀ j x i r,D j→outs[j]?=some x→lk x.2.1 i=some r→lk σ.rows i=some r
 bx:∀ i r,lk base.bx i=some r→lk σ.bx i=some r
 bxO:∀ j x i r,D j→outs[j]?=some x→lk x.2.2 i=some r→lk σ.bx i=some r
 rowsB:∀ i r,lk σ.rows i=some r→lk base.rows i=some r∨∃ j x r',D j∧outs[j]?=some x∧lk x.2.1 i=some r'
 bxB:∀ i r,lk σ.bx i=some r→lk base.bx i=some r∨∃ j x r',D j∧outs[j]?=some x∧lk x.2.2 i=some r'

theorem zbz {α:Type} (q:Nat→Bool):∀ (l:List (Nat×α)) (n:Nat),lk (l.filter fun x=>q x.1) n=if q n=true then lk l n else none
 | [],n=>by simp [lk]
 | (k,v)::l,n=>by
  rw [List.filter_cons]
  by_cases hk:q k=true
  ·rw [if_pos hk,zr,zr,zbz q l n]
   by_cases hkn:k=n
   ·subst hkn; simp [hk]
   ·simp [hkn]
  ·rw [if_neg hk,zbz q l n,zr]
   by_cases hkn:k=n
   ·subst hkn; simp [hk]
   ·simp [hkn]
theorem zl0 {ds:List Nat} {n:Nat}:(!(ds.any (Nat.beq n)))=true↔n∉ds:=by
 simp only [Bool.not_eq_true',List.any_eq_false]
 constructor
 ·intro h hm; have:=h n hm; simp at this
 ·intro h x hx hb; exact h (Nat.eq_of_beq_eq_true hb▸hx)

theorem z1cc {all:List Oper} {p i j d:Nat} (hj:j<i) (hp:p.testBit j=false) (hd:za3 all j=some d):d∈z3n all p i:=by
 unfold z3n
 exact List.mem_filterMap.2 ⟨j,List.mem_range.2 hj,by rw [hp]; exact hd⟩
end

theorem zrm:∀ (l:List Oper) (acc:List Nat),∃ r,z15 l acc=acc++r∧r.length=l.length
 | [],acc=>⟨[],by simp [z15],rfl⟩
 | o::l,acc=>by
  obtain ⟨r,h1,h2⟩:=zrm l (acc++[za4 acc o])
  exact ⟨za4 acc o::r,by simp only [z15]; rw [h1]; simp,by simp [h2]⟩
theorem zwp:∀ (l:List Oper) (acc:List Nat) (j:Nat) (o:Oper),l[j]?=some o→∃ acc',(z15 l acc)[acc.length+j]?=some (za4 acc' o)∧acc'=(z15 l acc).take (acc.length+j)
 | [],acc,j,o,h=>by simp at h
 | o'::l,acc,j,o,h=>by
  obtain ⟨r,h1,h2⟩:=zrm l (acc++[za4 acc o'])
  cases j with
  | zero =>
   simp at h
   subst h
   refine ⟨acc,?_,?_⟩
   ·simp only [z15]; rw [h1]; simp
   ·simp only [z15]; rw [h1]; simp
  | succ j =>
   simp only [List.getElem?_cons_succ] at h
   obtain ⟨acc',h3,h4⟩:=zwp l (acc++[za4 acc o']) j o h
   refine ⟨acc',?_,?_⟩
   ·simp only [z15]
    rw [show acc.length+(j+1)=(acc++[za4 acc o']).length+j by simp; omega]
    exact h3
   ·rw [h4]
    simp only [z15]
    congr 1
    simp; omega
theorem z1cd (before:List Nat) (o:Oper) (t:Nat) (h:(za4 before o).testBit t=true):∃ e∈o.after.toList,Region.binds .any e=true∧(t=e.on∨(before.getD e.on 0).testBit t=true):=by
 have key:∀ (l:List Edge) (s:Nat),(l.foldl (fun s e=>bif Region.binds .any e then Nat.lor s (Nat.lor (2 ^ e.on) (before.getD e.on 0)) else s) s).testBit t=true→s.testBit t=true∨∃ e∈l,Region.binds .any e=true∧(t=e.on∨(before.getD e.on 0).testBit t=true):=by
  intro l
  induction l with
  | nil=>intro s h; exact .inl h
  | cons e l ih =>
   intro s h
   rw [List.foldl_cons] at h
   rcases ih _ h with h | ⟨e',h1,h2⟩
   ·cases hb:Region.binds .any e <;> rw [hb] at h
    ·exact .inl h
    ·simp only [cond_true] at h
     have h':(s ||| (2 ^ e.on ||| before.getD e.on 0)).testBit t=true:=h
     rw [Nat.testBit_or,Nat.testBit_or,Bool.or_eq_true,Bool.or_eq_true] at h'
     rcases h' with h | h | h
     ·exact .inl h
     ·refine .inr ⟨e,by simp,hb,.inl ?_⟩
      rw [Nat.testBit_two_pow] at h
      exact (of_decide_eq_true h).symm
     ·exact .inr ⟨e,by simp,hb,.inr h⟩
   ·exact .inr ⟨e',by simp [h1],h2⟩
 rcases key _ 0 h with h | h
 ·simp at h
 ·exact h
theorem zeq:∀ {l:List Oper} {i:Nat},z5j i l=true→∀ (j:Nat) (o:Oper),l[j]?=some o→∀ e∈o.after.toList,Region.binds .any e=true→e.on<i+j
 | [],i,h,j,o,hj,e,he,hb=>by simp at hj
 | o'::l,i,h,j,o,hj,e,he,hb=>by
  simp only [z5j,Bool.and_eq_true,List.all_eq_true] at h
  cases j with
  | zero =>
   simp at hj
   subst hj
   have:=h.1 e he
   rw [hb] at this
   simp only [Bool.not_true,Bool.false_or] at this
   have:=Nat.le_of_ble_eq_true this
   omega
  | succ j =>
   simp only [List.getElem?_cons_succ] at hj
   have:=zeq h.2 j o hj e he hb
   omega
theorem z1ce {n p:Nat} (h:zbo n p=true) {j:Nat} (hj:j<n):p.testBit j=true:=by
 have e:=Nat.eq_of_beq_eq_true h
 have h1:(p % 2 ^ n).testBit j=true:=by rw [e,Nat.testBit_two_pow_sub_one]; simp [hj]
 rw [Nat.testBit_mod_two_pow] at h1
 simp only [Bool.and_eq_true] at h1
 exact h1.2
theorem zrn:∀ (ps:List Nat) (i j p:Nat),z4k ps i≤j→ps[j]?=some p→zbo (i+j) p=true
 | [],i,j,p,_,h=>by simp at h
 | q::ps,i,j,p,hj,h=>by
  simp only [z4k] at hj
  cases hf:z4k ps (i+1) with
  | zero =>
   rw [hf] at hj
   simp only [] at hj
   cases j with
   | zero =>
    simp at h
    subst h
    cases ht:zbo i q <;> rw [ht] at hj
    ·simp at hj
   | succ j =>
    simp only [List.getElem?_cons_succ] at h
    have:=zrn ps (i+1) j p (by omega) h
    rw [show i+(j+1)=i+1+j by omega]; exact this
  | succ n =>
   rw [hf] at hj
   simp only [] at hj
   cases j with
   | zero=>omega
   | succ j =>
    simp only [List.getElem?_cons_succ] at h
    have:=zrn ps (i+1) j p (by omega) h
    rw [show i+(j+1)=i+1+j by omega]; exact this

def zl1 (all:List Oper) (D:Nat→Prop):Prop:=∀ j o,D j→all[j]?=some o→∀ e∈o.after.toList,Region.binds .any e=true→D e.on
theorem zro {all:List Oper} (hE:z5j 0 all=true) {D:Nat→Prop} (hD:zl1 all D):∀ (j:Nat) (o:Oper),all[j]?=some o→(∀ e∈o.after.toList,Region.binds .any e=true→D e.on)→∀ t,((z15 all []).getD j 0).testBit t=true→D t:=by
 intro j
 induction j using Nat.strongRecOn with
 | _ j ih =>
  intro o ho he t ht
  obtain ⟨acc',h1,h2⟩:=zwp all [] j o ho
  rw [List.length_nil,Nat.zero_add] at h1 h2
  rw [List.getD_eq_getElem?_getD,h1] at ht
  obtain ⟨e,e1,e2,e3⟩:=z1cd acc' o t ht
  rcases e3 with rfl | e3
  ·exact he e e1 e2
  ·have hlt:=zeq hE j o ho e e1 e2
   rw [Nat.zero_add] at hlt
   rw [h2,List.getD_eq_getElem?_getD,List.getElem?_take_of_lt hlt,← List.getD_eq_getElem?_getD] at e3
   have hol:e.on<all.length:=Nat.lt_trans hlt (List.getElem?_eq_some_iff.1 ho).1
   have hdon:=he e e1 e2
   exact ih e.on hlt all[e.on] (List.getElem?_eq_getElem hol) (fun e' h3 h4=>hD e.on _ hdon (List.getElem?_eq_getElem hol) e' h3 h4) t e3

section
variable {P : Program} {E : Env} {w0 : World} {ok O : Nat → Prop} {σ σ' : St} {tm : Array Value} {w w' : World} {M : Map} {a : Act}

theorem zwq {α:Type}:∀ {l:List (Nat×α)} {x:Nat×α},x∈l→∃ v,lk l x.1=some v
 | (k,v)::l,x,h=>by
  rw [zr]
  by_cases hk:k=x.1
  ·exact ⟨v,by rw [if_pos hk]⟩
  ·rw [if_neg hk]
   rcases List.mem_cons.1 h with rfl | h
   ·exact absurd rfl hk
   ·exact zwq h
theorem z1cf {d:Nat} {nr:List (Nat×Row)} {nb:List (Nat×Bx)} (h:σ.fresh d nr nb=true):(∀ i,(∃ r,lk nr i=some r)→i / 32=d)∧(∀ i,(∃ r,lk nb i=some r)→i=d):=by
 simp only [St.fresh,Bool.and_eq_true,List.all_eq_true] at h
 refine ⟨fun i ⟨r,hr⟩=>Nat.eq_of_beq_eq_true (h.1.1 _ (z1b hr)).1.1,fun i hi=>?_⟩
 obtain ⟨r,hr⟩:=hi
 have h2:=h.2
 split at h2
 ·cases hr
 ·rename_i x
  simp only [Bool.and_eq_true] at h2
  rw [show ([x]:List (Nat×Bx))=[(x.1,x.2)] from rfl] at hr
  rw [(z5m hr).1]
  exact Nat.eq_of_beq_eq_true h2.1.1
 ·cases h2
theorem z1cg {d:Nat} {nr:List (Nat×Row)} {nb:List (Nat×Bx)} (h:σ.fresh d nr nb=true) (hr:∀ i,(∃ r,lk nr i=some r)→lk σ'.rows i=none) (hb:∀ i,(∃ r,lk nb i=some r)→lk σ'.bx i=none):σ'.fresh d nr nb=true:=by
 simp only [St.fresh,Bool.and_eq_true,List.all_eq_true] at h ⊢
 refine ⟨⟨fun x hx=>⟨(h.1.1 x hx).1,?_⟩,h.1.2⟩,?_⟩
 ·rw [hr x.1 (zwq hx)]
 ·have h2:=h.2
  split at h2
  ·rfl
  ·rename_i x
   simp only [Bool.and_eq_true] at h2 ⊢
   exact ⟨h2.1,by rw [hb x.1 ⟨x.2,z62 _ _ _⟩]⟩
  ·cases h2

structure FreeP (E:Env) (all:List Oper) (m:Nat) (base:St) (outs:List Out):Prop where
 len:outs.length=m
 le:m≤all.length
 edges:z5j 0 all=true
 dst:∀ j o,j<m→all[j]?=some o→∃ d,o.dst=some d∧lk base.sl d=none
 dist:∀ i j o o' d,i<m→j<m→all[i]?=some o→all[j]?=some o'→o.dst=some d→o'.dst=some d→i=j
 at_:∀ j,j<m→∃ σj o x,all[j]?=some o∧outs[j]?=some x∧zib E all ((z15 all []).getD j 0) j σj o x∧Chars base all outs j σj

theorem zib.ids {all:List Oper} {p i:Nat} {o:Oper} {x:Out} (h:zib E all p i σ o x):(∀ k,(∃ r,lk x.2.1 k=some r)→k / 32=z12 o)∧(∀ k,(∃ r,lk x.2.2 k=some r)→k=z12 o):=by
 rcases h with ⟨_,_,h⟩ | ⟨_,rfl⟩
 ·exact z1cf h
 ·exact ⟨fun k ⟨r,hr⟩=>(nomatch hr),fun k ⟨r,hr⟩=>(nomatch hr)⟩
theorem FreeP.ids {all:List Oper} {m:Nat} {base:St} {outs:List Out} (F:FreeP E all m base outs) {t:Nat} {x:Out} (ht:t<m) (hx:outs[t]?=some x) :
  ∃ o d,all[t]?=some o∧o.dst=some d∧(∀ k,(∃ r,lk x.2.1 k=some r)→k / 32=d)∧(∀ k,(∃ r,lk x.2.2 k=some r)→k=d):=by
 obtain ⟨σj,o,x',h1,h2,h3,_⟩:=F.at_ t ht
 rw [hx] at h2
 cases h2
 obtain ⟨d,hd,_⟩:=F.dst t o ht h1
 have:=h3.ids
 have hs:z12 o=d:=by simp [z12,hd]
 rw [hs] at this
 exact ⟨o,d,h1,hd,this.1,this.2⟩

theorem zwr {all:List Oper} {m:Nat} {base:St} {outs:List Out} (F:FreeP E all m base outs) {D:Nat→Prop} {σD σj:St} (hD:Done base all outs D σD) {j p:Nat} (hj:j<m) (hp:∀ t,p.testBit t=true→D t) (hc:Chars base all outs j σj):Le (σj.hide (z3n all p j)) σD:=by
 have tin:∀ t o d,t<j→all[t]?=some o→o.dst=some d→d∉z3n all p j→D t:=by
  intro t o d ht ho hd hn
  cases hb:p.testBit t with
  | true=>exact hp t hb
  | false=>exact absurd (z1cc ht hb (by simp [za3,ho,hd])) hn
 constructor
 ·intro s v h
  have h:lk (σj.sl.filter (fun x=>!((z3n all p j).any (Nat.beq x.1)))) s=some v:=h
  rw [zbz (fun n=>!((z3n all p j).any (Nat.beq n)))] at h
  split at h
  ·rename_i hs
   have hs:=zl0.1 hs
   rcases hc.sl s v h with h | ⟨t,o,x,ht,ho,hx,hd,rfl⟩
   ·exact hD.sl s v h
   ·exact hD.out t o x s (tin t o s ht ho hd hs) ho hx hd
  ·cases h
 ·intro s v h
  have h:lk (σj.rows.filter (fun x=>!((z3n all p j).any (Nat.beq (x.1 / 32))))) s=some v:=h
  rw [zbz (fun n=>!((z3n all p j).any (Nat.beq (n / 32))))] at h
  split at h
  ·rename_i hs
   have hs:=zl0.1 hs
   rcases hc.rows s v h with h | ⟨t,x,ht,hx,h⟩
   ·exact hD.rows s v h
   ·obtain ⟨o,d,ho,hd,h1,_⟩:=F.ids (Nat.lt_trans ht hj) hx
    exact hD.rowsO t x s v (tin t o d ht ho hd (by rw [← h1 s ⟨v,h⟩]; exact hs)) hx h
  ·cases h
 ·intro s v h
  have h:lk (σj.bx.filter (fun x=>!((z3n all p j).any (Nat.beq x.1)))) s=some v:=h
  rw [zbz (fun n=>!((z3n all p j).any (Nat.beq n)))] at h
  split at h
  ·rename_i hs
   have hs:=zl0.1 hs
   rcases hc.bx s v h with h | ⟨t,x,ht,hx,h⟩
   ·exact hD.bx s v h
   ·obtain ⟨o,d,ho,hd,_,h1⟩:=F.ids (Nat.lt_trans ht hj) hx
    exact hD.bxO t x s v (tin t o d ht ho hd (by rw [← h1 s ⟨v,h⟩]; exact hs)) hx h
  ·cases h

theorem Done.step {all:List Oper} {m:Nat} {base:St} {outs:List Out} (F:FreeP E all m base outs) {D:Nat→Prop} {σD:St} (hD:Done base all outs D σD) (hDm:∀ t,D t→t<m) {j:Nat} (hj:j<m) {o:Oper} {x:Out} (ho:all[j]?=some o) (hx:outs[j]?=some x)
  (hfr:(∀ k,(∃ r,lk x.2.1 k=some r)→lk σD.rows k=none)∧(∀ k,(∃ r,lk x.2.2 k=some r)→lk σD.bx k=none)):Done base all outs (fun t=>t=j∨D t) (z5e σD o x):=by
 obtain ⟨d,hd,hb⟩:=F.dst j o hj ho
 have hsl:∀ s,lk (z5e σD o x).sl s=if d=s then some x.1 else lk σD.sl s:=by
  intro s
  unfold z5e
  rw [hd]
  simp only [St.put,zr]
  rfl
 have hrow:∀ k,lk (z5e σD o x).rows k=(lk x.2.1 k).or (lk σD.rows k):=fun k=>by rw [zky,z2i]
 have hbx:∀ k,lk (z5e σD o x).bx k=(lk x.2.2 k).or (lk σD.bx k):=fun k=>by rw [zkz,z2i]
 have orR:∀ k r,lk σD.rows k=some r→lk (z5e σD o x).rows k=some r:=by
  intro k r h
  rw [hrow]
  cases hq:lk x.2.1 k with
  | some r'=>have:=hfr.1 k ⟨r',hq⟩; rw [h] at this; cases this
  | none=>exact h
 have orB:∀ k r,lk σD.bx k=some r→lk (z5e σD o x).bx k=some r:=by
  intro k r h
  rw [hbx]
  cases hq:lk x.2.2 k with
  | some r'=>have:=hfr.2 k ⟨r',hq⟩; rw [h] at this; cases this
  | none=>exact h
 constructor
 ·intro s v h
  rw [hsl]
  split
  ·rename_i e; subst e; rw [hb] at h; cases h
  ·exact hD.sl s v h
 ·intro t o' x' d' ht ho' hx' hd'
  rw [hsl]
  by_cases htj:t=j
  ·subst htj
   rw [ho] at ho'
   rw [hx] at hx'
   cases ho'; cases hx'
   rw [hd] at hd'
   cases hd'
   rw [if_pos rfl]
  ·rcases ht with h | ht
   ·exact absurd h htj
   ·rw [if_neg (fun e=>htj (F.dist t j o' o d' (hDm t ht) hj ho' ho hd' (by rw [hd,e])))]
    exact hD.out t o' x' d' ht ho' hx' hd'
 ·exact fun k r h=>orR k r (hD.rows k r h)
 ·intro t x' k r ht hx' h
  by_cases htj:t=j
  ·subst htj
   rw [hx] at hx'
   cases hx'
   rw [hrow,h]; rfl
  ·rcases ht with h2 | ht
   ·exact absurd h2 htj
   ·exact orR k r (hD.rowsO t x' k r ht hx' h)
 ·exact fun k r h=>orB k r (hD.bx k r h)
 ·intro t x' k r ht hx' h
  by_cases htj:t=j
  ·subst htj
   rw [hx] at hx'
   cases hx'
   rw [hbx,h]; rfl
  ·rcases ht with h2 | ht
   ·exact absurd h2 htj
   ·exact orB k r (hD.bxO t x' k r ht hx' h)
 ·intro k r h
  rw [hrow] at h
  cases hq:lk x.2.1 k with
  | some r'=>exact .inr ⟨j,x,r',.inl rfl,hx,hq⟩
  | none =>
   rw [hq] at h
   rcases hD.rowsB k r h with h | ⟨t,x',r',ht,h1,h2⟩
   ·exact .inl h
   ·exact .inr ⟨t,x',r',.inr ht,h1,h2⟩
 ·intro k r h
  rw [hbx] at h
  cases hq:lk x.2.2 k with
  | some r'=>exact .inr ⟨j,x,r',.inl rfl,hx,hq⟩
  | none =>
   rw [hq] at h
   rcases hD.bxB k r h with h | ⟨t,x',r',ht,h1,h2⟩
   ·exact .inl h
   ·exact .inr ⟨t,x',r',.inr ht,h1,h2⟩

theorem z1ch [Glob P] {all:List Oper} {m n:Nat} {base:St} {outs:List Out} (T:zi P E.ti=true) (EQ:z2j P E) (S:SpecOK P E w0 O) (F:FreeP E all m base outs) {D:Nat→Prop} {σD:St} (hD:Done base all outs D σD) (hDm:∀ t,D t→t<m) {j:Nat} (hj:j<m) (hnj:¬ D j)
  (hp:∀ t,((z15 all []).getD j 0).testBit t=true→D t) (hB:∀ o∈all,∀ d,o.dst=some d→d<n) {a:Act} {w:World} {M:Map} (R:Rep E w0 ok O σD a.tmps w M) (hn:a.tmps.size=n) (hd:a.defers=[]) {K:Act→World→Prop} {Q:Exit→Act→World→Prop}
  (hK:∀ σ' a' w' M',Done base all outs (fun t=>t=j∨D t) σ'→Rep E w0 ok O σ' a'.tmps w' M'→a'.tmps.size=n→a'.defers=[]→K a' w'):wpOp P all.toArray Q j K a w:=by
 obtain ⟨σj,o,x,ho,hx,htr,hc⟩:=F.at_ j hj
 have hle:=zwr F hD hj hp hc
 have hin:inB o.dst a.tmps:=fun d hd=>by rw [hn]; exact hB o (List.mem_of_getElem? ho) d hd
 have hoa:all.toArray[j]?=some o:=by simpa using ho
 have hfr:(∀ k,(∃ r,lk x.2.1 k=some r)→lk σD.rows k=none)∧(∀ k,(∃ r,lk x.2.2 k=some r)→lk σD.bx k=none):=by
  obtain ⟨o',d,ho',hd',i1,i2⟩:=F.ids hj hx
  rcases htr with ⟨_,_,hf⟩ | ⟨_,rfl⟩
  ·refine ⟨fun k hk=>?_,fun k hk=>?_⟩
   ·cases hq:lk σD.rows k with
    | none=>rfl
    | some r =>
     exfalso
     rcases hD.rowsB k r hq with h | ⟨t,x',r',ht,h1,h2⟩
     ·obtain ⟨r2,hr2⟩:=hc.rows' k ⟨r,h⟩
      rw [zkf hf hk] at hr2; cases hr2
     ·obtain ⟨o2,d2,ho2,hd2,i3,_⟩:=F.ids (hDm t ht) h1
      have e:d2=d:=(i3 k ⟨r',h2⟩).symm.trans (i1 k hk)
      subst e
      have:=F.dist t j o2 o' d2 (hDm t ht) hj ho2 ho' hd2 hd'
      exact hnj (this▸ht)
   ·cases hq:lk σD.bx k with
    | none=>rfl
    | some r =>
     exfalso
     rcases hD.bxB k r hq with h | ⟨t,x',r',ht,h1,h2⟩
     ·obtain ⟨r2,hr2⟩:=hc.bx' k ⟨r,h⟩
      rw [zeg hf hk] at hr2; cases hr2
     ·obtain ⟨o2,d2,ho2,hd2,_,i3⟩:=F.ids (hDm t ht) h1
      have e:d2=d:=(i3 k ⟨r',h2⟩).symm.trans (i2 k hk)
      subst e
      have:=F.dist t j o2 o' d2 (hDm t ht) hj ho2 ho' hd2 hd'
      exact hnj (this▸ht)
  ·exact ⟨fun k ⟨r,hr⟩=>(nomatch hr),fun k ⟨r,hr⟩=>(nomatch hr)⟩
 have hnext:=Done.step F hD hDm hj ho hx hfr
 have wm:∀ {b:Bool},z4j all o (σj.hide (z3n all ((z15 all []).getD j 0) j)) (some true) (some false)=some b→z4j all o σD (some true) (some false)=some b:=by
  intro b h
  unfold z4j at h ⊢
  cases hg:o.guard with
  | none=>rw [hg] at h; exact h
  | some gw =>
   rw [hg] at h
   simp only [] at h ⊢
   cases hdd:za3 all gw.1 with
   | none=>rw [hdd] at h; cases h
   | some dd =>
    rw [hdd] at h
    simp only [] at h ⊢
    cases hq:lk (σj.hide (z3n all ((z15 all []).getD j 0) j)).sl dd with
    | none=>rw [hq] at h; cases h
    | some v=>rw [hle.sl dd v hq]; rw [hq] at h; exact h
 unfold wpOp
 rw [hoa]
 simp only []
 rcases htr with ⟨hw,hpu,hf⟩ | ⟨hw,rfl⟩
 ·rcases zkx R (wm hw) with ⟨hw1,_⟩ | ⟨_,h2⟩
  ·rw [if_pos hw1]
   have hpu':zv E σD o=some x:=zuw hle hpu
   have hf':σD.fresh (z12 o) x.2.1 x.2.2=true:=z1cg hf hfr.1 hfr.2
   refine .inl (zw3 R rfl T EQ S hpu' hf' K Q fun v w' M' X=>?_)
   refine hK _ _ w' M' hnext ?_ (by rw [z1w,z4o,hn]) (by rw [z5b]; exact hd)
   rw [z1w]
   exact R.add hf' X hin
  ·cases h2
 ·rcases zkx R (wm hw) with ⟨_,h2⟩ | ⟨hw1,_⟩
  ·cases h2
  ·rw [if_neg (by rw [hw1]; simp)]
   refine hK _ _ w M hnext ?_ (by rw [z1w,z4o,hn]) (by rw [z5b]; exact hd)
   rw [z1w]
   exact R.putSkip hin
end

section
variable {P : Program} {E : Env} {w0 : World} {ok O : Nat → Prop} {σ σ' : St} {tm : Array Value} {w w' : World} {M M' : Map} {a : Act}

theorem zws {t:Ty} (hf:t.flat=true):∀ {s:SV} {cs:List Value} {xs:List t.T},z1m w0 ok M s cs→zk8 t s=some xs→∃ ls:List (L t),ls.map (erase t)=xs∧ls.flatMap (za t)=cs∧ls.length=s.count
 | .nl,cs,xs,h,hx=>by
  simp only [z1m] at h
  subst h
  cases hx
  exact ⟨[],rfl,rfl,rfl⟩
 | .cns a b,cs,xs,h,hx=>by
  obtain ⟨c1,c2,rfl,h1,h2⟩:=h
  simp only [zk8] at hx
  split at hx
  ·rename_i u x ys hy
   split at hx
   ·rename_i e
    subst e
    cases hx
    obtain ⟨ls,g1,g2,g3⟩:=zws hf h2 hy
    obtain ⟨l,k1,k2,_⟩:=zbw hf h1
    exact ⟨l::ls,by simp [g1,k1],by simp [g2,k2],by simp [g3,SV.count]⟩
   ·cases hx
  ·cases hx
 | .val _ _,_,_,_,hx=>by cases hx
 | .ref _ _,_,_,_,hx=>by cases hx
 | .vw _ _ _,_,_,_,hx=>by cases hx
 | .ls _,_,_,_,hx=>by cases hx
 | .st _,_,_,_,hx=>by cases hx
 | .pr _ _,_,_,_,hx=>by cases hx
 | .bp _ _ _,_,_,_,hx=>by cases hx
 | .ep _ _ _ _ _,_,_,_,hx=>by cases hx
 | .lp _ _,_,_,_,hx=>by cases hx
 | .clo _ _,_,_,_,hx=>by cases hx
 | .tup _,_,_,_,hx=>by cases hx
 | .no,_,_,_,hx=>by cases hx
 | .un,_,_,_,hx=>by cases hx

theorem zl2 (j i:Nat) (s:SV):(s.lsRef j i).isSt=s.isSt∧(s.lsRef j i).count=s.count∧(s.lsRef j i).isCh=s.isCh∧(∀ k∈(s.lsRef j i).roots,k∈s.roots∨(k=i∧j∈s.boxes))∧∀ k∈(s.lsRef j i).boxes,k∈s.boxes∧k≠j:=by
 induction s with
 | st s ih=>exact ⟨rfl,rfl,rfl,ih.2.2.2.1,ih.2.2.2.2⟩
 | tup s ih=>exact ⟨rfl,rfl,rfl,ih.2.2.2.1,ih.2.2.2.2⟩
 | clo g s ih=>exact ⟨rfl,rfl,rfl,ih.2.2.2.1,ih.2.2.2.2⟩
 | pr a b iha ihb =>
  refine ⟨rfl,rfl,rfl,fun k hk=>?_,fun k hk=>?_⟩
  ·simp only [SV.lsRef,SV.roots,SV.boxes,List.mem_append] at hk ⊢
   rcases hk with hk | hk
   ·exact (iha.2.2.2.1 k hk).elim (fun h=>.inl (.inl h)) fun h=>.inr ⟨h.1,.inl h.2⟩
   ·exact (ihb.2.2.2.1 k hk).elim (fun h=>.inl (.inr h)) fun h=>.inr ⟨h.1,.inr h.2⟩
  ·simp only [SV.lsRef,SV.boxes,List.mem_append] at hk ⊢
   rcases hk with hk | hk
   ·exact ⟨.inl (iha.2.2.2.2 k hk).1,(iha.2.2.2.2 k hk).2⟩
   ·exact ⟨.inr (ihb.2.2.2.2 k hk).1,(ihb.2.2.2.2 k hk).2⟩
 | cns a b iha ihb =>
  refine ⟨rfl,by simp [SV.lsRef,SV.count,ihb.2.1],rfl,fun k hk=>?_,fun k hk=>?_⟩
  ·simp only [SV.lsRef,SV.roots,SV.boxes,List.mem_append] at hk ⊢
   rcases hk with hk | hk
   ·exact (iha.2.2.2.1 k hk).elim (fun h=>.inl (.inl h)) fun h=>.inr ⟨h.1,.inl h.2⟩
   ·exact (ihb.2.2.2.1 k hk).elim (fun h=>.inl (.inr h)) fun h=>.inr ⟨h.1,.inr h.2⟩
  ·simp only [SV.lsRef,SV.boxes,List.mem_append] at hk ⊢
   rcases hk with hk | hk
   ·exact ⟨.inl (iha.2.2.2.2 k hk).1,(iha.2.2.2.2 k hk).2⟩
   ·exact ⟨.inr (ihb.2.2.2.2 k hk).1,(ihb.2.2.2.2 k hk).2⟩
 | ls k =>
  simp only [SV.lsRef]
  cases h:Nat.beq j k
  ·refine ⟨rfl,rfl,rfl,by simp [SV.roots],fun q hq=>?_⟩
   simp only [cond_false,SV.boxes,List.mem_singleton] at hq ⊢
   subst hq
   exact ⟨rfl,fun e=>z4p h e.symm⟩
  ·have:=Nat.eq_of_beq_eq_true h
   subst this
   exact ⟨rfl,rfl,rfl,by simp [SV.roots,SV.boxes],by simp [SV.boxes]⟩
 | lp k n =>
  simp only [SV.lsRef]
  cases h:Nat.beq j k
  ·refine ⟨rfl,rfl,rfl,by simp [SV.roots],fun q hq=>?_⟩
   simp only [cond_false,SV.boxes,List.mem_singleton] at hq ⊢
   subst hq
   exact ⟨rfl,fun e=>z4p h e.symm⟩
  ·exact ⟨rfl,rfl,rfl,by simp [SV.roots],by simp [SV.boxes]⟩
 | bp k p o =>
  simp only [SV.lsRef]
  cases h:Nat.beq j k
  ·refine ⟨rfl,rfl,rfl,by simp [SV.roots],fun q hq=>?_⟩
   simp only [cond_false,SV.boxes,List.mem_singleton] at hq ⊢
   subst hq
   exact ⟨rfl,fun e=>z4p h e.symm⟩
  ·exact ⟨rfl,rfl,rfl,by simp [SV.roots],by simp [SV.boxes]⟩
 | _=>exact ⟨rfl,rfl,rfl,fun k hk=>.inl hk,fun k hk=>absurd hk (by simp [SV.lsRef,SV.boxes])⟩
structure Turned (M M':Map) (j i:Nat):Prop where
 loc:∀ k,k≠i→M'.loc k=M.loc k
 blk:∀ k,M'.blk k=M.blk k∧M'.bn k=M.bn k∧M'.bw k=M.bw k
 row:∃ e t,∃ l:L (.sl e t),M'.loc i=⟨.sl e t,l⟩∧l.1=some (M.blk j)∧l.2.1=M.bn j∧l.2.2.length=M.bn j
theorem z49 {j i:Nat} (H:Turned M M' j i):∀ {s:SV} {cs:List Value},(∀ k∈s.roots,k≠i)→zc w0 ok M s cs→zc w0 ok M' (s.lsRef j i) cs
 | .val t x,cs,_,h=>h
 | .ref k p,cs,hr,h=>by
  obtain ⟨e,t,l,h1,h2⟩:=h
  exact ⟨e,t,l,by rw [H.loc k (hr k (by simp [SV.roots]))]; exact h1,h2⟩
 | .vw k lo n,cs,hr,h=>by
  obtain ⟨e,t,l,h1,h2⟩:=h
  exact ⟨e,t,l,by rw [H.loc k (hr k (by simp [SV.roots]))]; exact h1,h2⟩
 | .ls k,cs,hr,h=>by
  simp only [zc] at h
  subst h
  simp only [SV.lsRef]
  cases hb:Nat.beq j k
  ·show [_]=[_]
   rw [(H.blk k).1,(H.blk k).2.1]
  ·have:=Nat.eq_of_beq_eq_true hb
   subst this
   obtain ⟨e,t,l,h1,h2,h3,h4⟩:=H.row
   refine ⟨e,t,l,(congrArg (fun z:Loc=>zz z.1 z.2 []) h1).trans rfl,?_⟩
   simp only [za,h2,h3,h4,Option.map_some]
 | .st s,cs,hr,h=>z49 H (s:=s) hr h
 | .pr a b,cs,hr,h=>by
  obtain ⟨c1,c2,rfl,h1,h2⟩:=h
  exact ⟨c1,c2,rfl,z49 H (fun k hk=>hr k (by simp [SV.roots,hk])) h1,z49 H (fun k hk=>hr k (by simp [SV.roots,hk])) h2⟩
 | .bp k p o,cs,hr,h=>by
  simp only [zc] at h
  subst h
  simp only [SV.lsRef]
  cases hb:Nat.beq j k
  ·show [_]=[_]
   rw [(H.blk k).1]
  ·exact ⟨_,rfl,rfl⟩
 | .ep k p n f o,cs,hr,h=>by
  obtain ⟨e,t,l,g,h1,h2⟩:=h
  exact ⟨e,t,l,g,by rw [H.loc k (hr k (by simp [SV.roots]))]; exact h1,h2⟩
 | .lp k n,cs,hr,h=>by
  obtain ⟨h1,rfl⟩:=h
  simp only [SV.lsRef]
  cases hb:Nat.beq j k
  ·refine ⟨by rw [(H.blk k).2.1]; exact h1,?_⟩
   rw [(H.blk k).1,(H.blk k).2.2]
  ·exact ⟨_,rfl,rfl⟩
 | .clo g c,cs,hr,h=>by
  obtain ⟨caps,rfl,h1⟩:=h
  exact ⟨caps,rfl,z49 H (s:=c) hr h1⟩
 | .no,cs,hr,h=>h
 | .un,cs,hr,h=>h
 | .tup _,_,_,h=>h.elim
 | .cns _ _,_,_,h=>h.elim
 | .nl,_,_,h=>h.elim
theorem z1ci {j i:Nat} (H:Turned M M' j i) {s:SV}:∀ {cs:List Value},(∀ k∈s.roots,k≠i)→z1m w0 ok M s cs→z1m w0 ok M' (s.lsRef j i) cs:=by
 induction s with
 | cns a b iha ihb =>
  intro cs hr h
  obtain ⟨c1,c2,rfl,h1,h2⟩:=h
  exact ⟨c1,c2,rfl,z49 H (fun k hk=>hr k (by simp [SV.roots,hk])) h1,ihb (fun k hk=>hr k (by simp [SV.roots,hk])) h2⟩
 | nl=>intro cs hr h; exact h
 | tup s _=>intro cs hr h; exact h.elim
 | ls k=>intro cs hr h; exact z13 (z49 H (s:=.ls k) hr h)
 | val t x=>intro cs hr h; exact z13 (z49 H (s:=.val t x) hr h)
 | ref k p=>intro cs hr h; exact z13 (z49 H (s:=.ref k p) hr h)
 | vw k a b=>intro cs hr h; exact z13 (z49 H (s:=.vw k a b) hr h)
 | st s _=>intro cs hr h; exact z13 (z49 H (s:=.st s) hr h)
 | pr a b _ _=>intro cs hr h; exact z13 (z49 H (s:=.pr a b) hr h)
 | bp k p o=>intro cs hr h; exact z13 (z49 H (s:=.bp k p o) hr h)
 | ep k p n f o=>intro cs hr h; exact z13 (z49 H (s:=.ep k p n f o) hr h)
 | lp k n=>intro cs hr h; exact z13 (z49 H (s:=.lp k n) hr h)
 | clo g s _=>intro cs hr h; exact z13 (z49 H (s:=.clo g s) hr h)
 | no=>intro cs hr h; exact h
 | un=>intro cs hr h; exact h
theorem z1cj {j i:Nat} (H:Turned M M' j i) {s:SV}:∀ {vs:List Value},(∀ k∈s.roots,k≠i)→z2m w0 ok M s vs→z2m w0 ok M' (s.lsRef j i) vs:=by
 induction s with
 | cns a b iha ihb =>
  intro vs hr h
  obtain ⟨v,vs',rfl,⟨cs,h1,h3⟩,h2⟩:=h
  exact ⟨v,vs',rfl,⟨cs,z49 H (fun k hk=>hr k (by simp [SV.roots,hk])) h1,by rw [(zl2 j i a).1]; exact h3⟩,ihb (fun k hk=>hr k (by simp [SV.roots,hk])) h2⟩
 | nl=>intro vs hr h; exact h
 | _=>intro vs hr h; exact h.elim
theorem z1ck {j i:Nat} (H:Turned M M' j i) {s:SV} {v:Value} (hr:∀ k∈s.roots,k≠i) (h:zq w0 ok M s v):zq w0 ok M' (s.lsRef j i) v:=by
 rcases z3f h with rfl | ⟨c,vs,rfl,rfl,h1⟩ | ⟨cs,h1,h2⟩
 ·trivial
 ·exact ⟨vs,rfl,z1cj H hr h1⟩
 ·refine z1v (z49 H hr h1) ?_
  unfold z2z
  rw [(zl2 j i s).1]
  exact h2
theorem Rep.recontent (R:Rep E w0 ok O σ tm w M) {sl:List (Nat×SV)} {bx:List (Nat×Bx)} (hs:∀ s v,lk sl s=some v→(∃ u,tm[s]?=some u∧zq w0 ok M v u)∧Live ⟨sl,σ.rows,bx⟩ v)
  (hb:∀ i b,lk bx i=some b→(∃ b0,lk σ.bx i=some b0)∧(∃ cs,z1m w0 ok M b.c cs∧w.heap[M.blk i]?=some (.cells cs.toArray b.ty (0,0))∧(b.c.isCh=true→M.bn i=b.c.count∧M.bw i=(E.tyOf b.ty).sz∧b.c.count≤16777216))∧Live ⟨sl,σ.rows,bx⟩ b.c):Rep E w0 ok O ⟨sl,σ.rows,bx⟩ tm w M where
 slots:=fun s v h=>(hs s v h).1
 rows:=R.rows
 boxes:=fun i b h=>(hb i b h).2.1
 rr:=R.rr
 bb:=fun i j hij ⟨b,h⟩ ⟨b',h'⟩=>R.bb i j hij (hb i b h).1 (hb j b' h').1
 rb:=fun i j hi ⟨b,h⟩=>R.rb i j hi (hb j b h).1
 ownR:=R.ownR
 ownB:=fun i ⟨b,h⟩=>R.ownB i (hb i b h).1
 okB:=R.okB
 liveS:=fun s v h=>(hs s v h).2
 liveB:=fun i b h=>(hb i b h).2.2
 kept:=R.kept
 pin:=R.pin
 pinB:=fun i hi ⟨b,h⟩=>R.pinB i hi (hb i b h).1
theorem zwt (R:Rep E w0 ok O σ tm w M) {j:Nat} {b:Bx} (hb:lk σ.bx j=some b) (hch:b.c.isCh=true) {i:Nat} (hi:i<PIN) (hn:lk σ.rows i=none) {t:Ty} {ls:List (L t)} {cs:List Value} (hsz:t.sz=(E.tyOf b.ty).sz) (hlen:ls.length=b.c.count)
  (hcs:z1m w0 ok M b.c cs) (hw:w.heap[M.blk j]?=some (.cells cs.toArray b.ty (0,0))) (hfc:ls.flatMap (za t)=cs) (hh:∀ y∈ls,holds (Rd w0 ok) w t y∧plain w t y) (hbl:ls.flatMap (z7 t)=[]) :
  ∃ M',Rep E w0 ok O (σ.turn j i ⟨b.ty,t,ls.map (erase t),false⟩) tm w M':=by
 obtain ⟨cs2,h1,h2,h3⟩:=R.boxes j b hb
 obtain ⟨n1,n2,n3⟩:=h3 hch
 have hlc:cs.length=ls.length*t.sz:=by rw [← hfc,z1u]
 let l:L (.sl b.ty t):=(some (M.blk j),M.bn j,ls)
 have hbs:z7 (.sl b.ty t) l=[M.blk j]:=by simp only [l,z7,hbl,Option.toList_some,List.append_nil]
 have hholds:holds (Rd w0 ok) w (.sl b.ty t) l:=by
  refine ⟨⟨cs.toArray,(0,0),hw,?_,?_,?_,?_,.inl rfl⟩,fun y hy=>(hh y hy).1⟩
  ·simp only [l,hlen,n1]; exact Nat.le_refl _
  ·simp only [l,n1,maxLen]; omega
  ·simp only [l,n1,List.size_toArray,hlc,hlen]; exact Nat.le_refl _
  ·simp only [l]
   rw [← hlc,List.take_length,hfc]
 have hplain:plain w (.sl b.ty t) l:=by
  refine ⟨fun q hq=>?_,fun y hy=>(hh y hy).2⟩
  cases hq
  exact ⟨_,_,hw,by simp only [l,List.size_toArray,hlc,hlen,n1]⟩
 have hdropno:lk (σ.dropB j).rows i=none:=hn
 have hfree:Free w0 ok O (σ.dropB j) M (z7 (.sl b.ty t) l):=by
  rw [hbs]
  refine ⟨by simp,fun k hk=>?_,fun i' hi' k hk hk2=>?_,fun i' hi' hk=>?_⟩
  ·simp only [List.mem_singleton] at hk; subst hk; exact R.ownB j ⟨b,hb⟩
  ·simp only [List.mem_singleton] at hk; subst hk; exact R.rb i' j hi' ⟨b,hb⟩ hk2
  ·simp only [List.mem_singleton] at hk
   have hne:=zkq hi'
   obtain ⟨b1,hb1⟩:=hi'
   exact R.bb i' j hne ((Sub.dropB σ j).bx i' b1 hb1) ⟨b,hb⟩ hk
 have R2:=(R.dropB j).addOwn i hi l hholds hplain hfree
 have hT:Turned M (z1o M i ⟨.sl b.ty t,l⟩) j i:=⟨fun k hk=>z3p _ _ hk,fun k=>⟨rfl,rfl,rfl⟩,⟨b.ty,t,l,z1y _ _ _,rfl,rfl,by rw [n1]; exact hlen⟩⟩
 have hrows:((σ.dropB j).addRow i ⟨b.ty,t,erase (.sl b.ty t) l,false⟩).rows=(i,(⟨b.ty,t,ls.map (erase t),false⟩:Row))::σ.rows:=by
  unfold St.addRow
  simp only [hdropno]
  rfl
 have hbx:((σ.dropB j).addRow i ⟨b.ty,t,erase (.sl b.ty t) l,false⟩).bx=z14 (fun b:Bx=>(⟨b.ty,b.c.killB j⟩:Bx)) (rm σ.bx j):=by
  unfold St.addRow
  simp only [hdropno]
  rfl
 have rootsNe:∀ u,Live σ u→∀ k∈u.roots,k≠i:=fun u hu k hk e=>by
  obtain ⟨r,hr⟩:=hu.rows k hk
  rw [e,hn] at hr; cases hr
 have lkb:∀ k b',lk (z14 (fun b:Bx=>(⟨b.ty,b.c.lsRef j i⟩:Bx)) (rm σ.bx j)) k=some b'→k≠j∧∃ b0,lk σ.bx k=some b0∧b'=⟨b0.ty,b0.c.lsRef j i⟩:=by
  intro k b' h
  rw [z2f,z5n] at h
  obtain ⟨b0,h0,rfl⟩:=Option.map_eq_some_iff.1 h
  split at h0
  ·cases h0
  ·rename_i hne; exact ⟨fun e=>hne e.symm,b0,h0,rfl⟩
 have live:∀ u,Live σ u→Live ⟨z14 (SV.lsRef j i) σ.sl,((σ.dropB j).addRow i ⟨b.ty,t,erase (.sl b.ty t) l,false⟩).rows,z14 (fun b:Bx=>(⟨b.ty,b.c.lsRef j i⟩:Bx)) (rm σ.bx j)⟩ (u.lsRef j i):=by
  intro u hu
  obtain ⟨_,_,_,g4,g5⟩:=zl2 j i u
  refine ⟨fun k hk=>?_,fun k hk=>?_⟩
  ·show ∃ r,lk (St.addRow _ _ _).rows k=some r
   rw [hrows,zr]
   rcases g4 k hk with h | ⟨rfl,_⟩
   ·split
    ·exact ⟨_,rfl⟩
    ·exact hu.rows k h
   ·rw [if_pos rfl]; exact ⟨_,rfl⟩
  ·obtain ⟨h1,h2⟩:=g5 k hk
   obtain ⟨b0,h0⟩:=hu.boxes k h1
   exact ⟨_,by show lk (z14 _ (rm σ.bx j)) k=_; rw [z2f,z5n,if_neg (fun e=>h2 e.symm),h0]; rfl⟩
 have hst:σ.turn j i ⟨b.ty,t,ls.map (erase t),false⟩=⟨z14 (SV.lsRef j i) σ.sl,((σ.dropB j).addRow i ⟨b.ty,t,erase (.sl b.ty t) l,false⟩).rows,z14 (fun b:Bx=>(⟨b.ty,b.c.lsRef j i⟩:Bx)) (rm σ.bx j)⟩:=by
  unfold St.turn
  rw [hrows]
 rw [hst]
 refine ⟨_,R2.recontent (fun s v h=>?_) (fun k b' h=>?_)⟩
 ·rw [z2f] at h
  obtain ⟨u,hu,rfl⟩:=Option.map_eq_some_iff.1 h
  obtain ⟨z,z1,z2⟩:=R.slots s u hu
  exact ⟨⟨z,z1,z1ck hT (rootsNe u (R.liveS s u hu)) z2⟩,live u (R.liveS s u hu)⟩
 ·obtain ⟨hne,b0,h0,rfl⟩:=lkb k b' h
  obtain ⟨cs',q1,q2,q3⟩:=R.boxes k b0 h0
  obtain ⟨_,f2,f3,_,_⟩:=zl2 j i b0.c
  refine ⟨⟨⟨b0.ty,b0.c.killB j⟩,by rw [hbx,z2f,z5n,if_neg (fun e=>hne e.symm),h0]; rfl⟩,⟨cs',z1ci hT (rootsNe b0.c (R.liveB k b0 h0)) q1,q2,fun hc=>?_⟩,live b0.c (R.liveB k b0 h0)⟩
  rw [f3] at hc
  rw [f2]
  exact q3 hc
theorem z1cl (R:Rep E w0 ok O σ tm w M) (j:Nat):∃ M',Rep E w0 ok O (σ.prom E j) tm w M':=by
 unfold St.prom
 split
 ·rename_i b hb
  cases hk:(b.c.isCh&&(Nat.blt (za5 j) PIN&&(match lk σ.rows (za5 j) with | none=>true | some _=>false)))
  ·exact ⟨M,R⟩
  ·simp only [cond_true]
   simp only [Bool.and_eq_true] at hk
   obtain ⟨k1,k2,k3⟩:=hk
   have hn:lk σ.rows (za5 j)=none:=by
    split at k3
    ·assumption
    ·cases k3
   obtain ⟨cs,h1,h2,h3⟩:=R.boxes j b hb
   cases hf:(E.tyOf b.ty).flat
   ·simp only [cond_false]
    cases hc:Nat.beq b.c.count 0
    ·exact ⟨M,R⟩
    ·have hc:=Nat.eq_of_beq_eq_true hc
     have hcs:cs=[]:=by
      cases hbc:b.c with
      | nl=>rw [hbc] at h1; exact h1
      | cns x y=>rw [hbc] at hc; simp [SV.count] at hc
      | _=>rw [hbc] at k1; cases k1
     subst hcs
     simp only [cond_true]
     have fin:∀ t:Ty,t.sz=(E.tyOf b.ty).sz→∃ M',Rep E w0 ok O (σ.turn j (za5 j) ⟨b.ty,t,[],false⟩) tm w M':=fun t ht =>
      zwt R hb k1 (Nat.le_of_ble_eq_true k2) hn (t:=t) (ls:=[]) ht (by simp [hc]) h1 h2 rfl (by simp) rfl
     cases E.rdm
     ·exact fin _ rfl
     ·exact fin _ (z7q _)
   ·simp only [cond_true]
    split
    ·rename_i xs hx
     obtain ⟨ls,g1,g2,g3⟩:=zws hf h1 hx
     rw [← g1]
     exact zwt R hb k1 (Nat.le_of_ble_eq_true k2) hn rfl g3 h1 h2 g2 (fun y _=>z7z y hf _ w) (List.flatMap_eq_nil_iff.2 fun y _=>zah y hf)
    ·exact ⟨M,R⟩
 ·exact ⟨M,R⟩
theorem zwu (R:Rep E w0 ok O σ tm w M):∃ M',Rep E w0 ok O (σ.promAll E) tm w M':=by
 unfold St.promAll
 generalize σ.bx.filterMap (fun x=>bif x.2.c.isCh then some x.1 else none)=l
 induction l generalizing σ M with
 | nil=>exact ⟨M,R⟩
 | cons j l ih =>
  obtain ⟨M1,R1⟩:=z1cl R j
  exact ih R1
end

theorem zic:∀ (n:Nat) (l:List Nat),l.Nodup→(∀ x∈l,x<n)→l.length≤n
 | 0,l,_,h=>by
  cases l with
  | nil=>exact Nat.le_refl _
  | cons a l=>exact absurd (h a (by simp)) (Nat.not_lt_zero _)
 | n+1,l,hn,h=>by
  have h1:=zic n (l.erase n) (hn.erase n) (fun x hx=>by
   have:=(hn.mem_erase_iff).1 hx
   have h2:=h x this.2
   have:=this.1
   omega)
  by_cases hm:n∈l
  ·rw [List.length_erase_of_mem hm] at h1; omega
  ·rw [List.erase_of_not_mem hm] at h1; omega
theorem zrp:∀ {l:List Nat},l.Nodup→∀ {i j:Nat} (hi:i<l.length) (hj:j<l.length),l[i]=l[j]→i=j
 | [],_,i,j,hi,_,_=>by simp at hi
 | a::l,hn,0,0,_,_,_=>rfl
 | a::l,hn,0,j+1,hi,hj,h=>by
  have h1:=(List.nodup_cons.1 hn).1
  simp only [List.getElem_cons_zero,List.getElem_cons_succ] at h
  exact absurd (h▸List.getElem_mem _) h1
 | a::l,hn,i+1,0,hi,hj,h=>by
  have h1:=(List.nodup_cons.1 hn).1
  simp only [List.getElem_cons_zero,List.getElem_cons_succ] at h
  exact absurd (h▸List.getElem_mem _) h1
 | a::l,hn,i+1,j+1,hi,hj,h=>by
  have h2:=(List.nodup_cons.1 hn).2
  simp only [List.getElem_cons_succ] at h
  rw [zrp h2 (by simpa using hi) (by simpa using hj) h]
theorem z1cm {D:Nat→Prop}:∀ t,¬ D t→∃ s,s≤t∧¬ D s∧∀ u,u<s→D u:=by
 intro t
 induction t using Nat.strongRecOn with
 | _ t ih =>
  intro ht
  by_cases h:∀ u,u<t→D u
  ·exact ⟨t,Nat.le_refl _,ht,h⟩
  ·have:∃ u,u<t∧¬ D u:=Classical.byContradiction fun hne=>h fun u hu=>Classical.byContradiction fun hd=>hne ⟨u,hu,hd⟩
   obtain ⟨u,hu,hd⟩:=this
   obtain ⟨s,h1,h2,h3⟩:=ih u hu hd
   exact ⟨s,by omega,h2,h3⟩

theorem zer {all:List Oper} {L:Array Bool} {i:Nat}:i∈Region.ready .any all.toArray L↔i<all.length∧L.getD i true=false∧∀ o,all[i]?=some o→∀ e∈o.after.toList,Region.binds .any e=true→L.getD e.on false=true:=by
 unfold Region.ready
 rw [List.mem_filter,List.mem_range]
 simp only [List.size_toArray,Bool.and_eq_true,Bool.not_eq_true']
 refine and_congr_right fun hi=>and_congr_right fun _=>?_
 have ho:all.toArray[i]?=some all[i]:=by simp [hi]
 rw [ho]
 simp only [Option.map_some,Option.getD_some]
 constructor
 ·intro h o ho' e he hb
  rw [List.getElem?_eq_getElem hi] at ho'
  cases ho'
  have:=Array.all_eq_true_iff_forall_mem.1 h e (Array.mem_toList_iff.1 he)
  rw [hb] at this
  simpa using this
 ·intro h
  refine Array.all_eq_true_iff_forall_mem.2 fun e he=>?_
  cases hb:Region.binds .any e with
  | false=>rfl
  | true =>
   have:=h all[i] (List.getElem?_eq_getElem hi) e (Array.mem_toList_iff.2 he) hb
   rw [this]; rfl
theorem zaj {L:Array Bool} {i:Nat} (h:i<L.size):L.getD i true=L.getD i false:=by
 simp [Array.getD_eq_getD_getElem?,h]
theorem zrq {L:Array Bool} {i t:Nat} (h:i<L.size):(L.setIfInBounds i true).getD t false=true↔t=i∨L.getD t false=true:=by
 simp only [Array.getD_eq_getD_getElem?]
 by_cases hti:i=t
 ·subst hti; simp [h]
 ·rw [Array.getElem?_setIfInBounds_ne hti]
  constructor
  ·exact fun h=>.inr h
  ·rintro (h | h)
   ·exact absurd h.symm hti
   ·exact h

section
variable {P : Program} {E : Env} {w0 : World} {ok O : Nat → Prop} {σ σ' : St} {tm : Array Value} {w w' : World} {M : Map} {a : Act}

abbrev ZOK (all:List Oper) (m:Nat) (Z:List Nat) (t:Nat):Prop:=Region.noSelect all.toArray=true∧(∃ o,all[t]?=some o∧za6 o=true∧(t<m→∀ e∈o.after.toList,Region.binds .any e=true→e.on∈Z))∧Region.free .any all.toArray (zbp all.length Z m t) t=true
abbrev TOK (all:List Oper) (m:Nat) (Z:List Nat):Prop:=∀ j,m≤j→j<all.length→∀ t,t<j→((z15 all []).getD j 0).testBit t=true∨t∈Z

theorem zl3 {o:Oper} (h:za6 o=true):o.guard=none ∧
  ((∃ s,o.op=.move (.tmp s)∨o.op=.assign (.tmp s))∨(∃ x n,o.op=.extract x n)∨∃ op t x y u,o.op=.binOp op t x y u∧(op=.add∨op=.sub∨op=.mul)):=by
 simp only [za6,Bool.and_eq_true] at h
 obtain ⟨h1,h3⟩:=h
 refine ⟨Option.isNone_iff_eq_none.1 h1,?_⟩
 split at h3
 ·rename_i s hop; exact .inl ⟨s,.inl hop⟩
 ·rename_i s hop; exact .inl ⟨s,.inr hop⟩
 ·rename_i x n hop; exact .inr (.inl ⟨x,n,hop⟩)
 ·rename_i hop; exact .inr (.inr ⟨_,_,_,_,_,hop,.inl rfl⟩)
 ·rename_i hop; exact .inr (.inr ⟨_,_,_,_,_,hop,.inr (.inl rfl)⟩)
 ·rename_i hop; exact .inr (.inr ⟨_,_,_,_,_,hop,.inr (.inr rfl)⟩)
 ·cases h3

theorem zwv (R:Rep E w0 ok O σ a.tmps w M) (T:zi P E.ti=true) (EQ:z2j P E) {o:Oper} {x:Out} (hm:za6 o=true) (h:zv E σ o=some x) :
  ∃ v u,x=(v,[],[])∧(∀ w,(execOp a.eval o).run P w=.ok (.value u) w)∧zq w0 ok M v u∧Live σ v:=by
 obtain ⟨_,hop | ⟨p,n,hop⟩ | ⟨op,t,p,q,u,hop,hopk⟩⟩:=zl3 hm
 ·obtain ⟨s,hop⟩:=hop
  have hp:∃ v,lk σ.sl s=some v∧x=(v,[],[]):=by
   unfold zv z1i at h
   rcases hop with hop | hop <;> rw [hop] at h <;> simp only [opd] at h <;> split at h
   ·rename_i u hu; cases h; exact ⟨u,hu,rfl⟩
   ·cases h
   ·rename_i u hu; cases h; exact ⟨u,hu,rfl⟩
   ·cases h
  obtain ⟨v,hv,rfl⟩:=hp
  obtain ⟨u,hu1,hu2⟩:=R.slots s v hv
  have hev:a.eval (.tmp s)=u:=by
   show a.tmps.getD s undef=u
   rw [Array.getD_eq_getD_getElem?,hu1]; rfl
  refine ⟨v,u,rfl,fun w=>?_,hu2,R.liveS s v hv⟩
  unfold execOp
  rcases hop with hop | hop <;> rw [hop] <;> simp only [hev] <;> rfl
 ·unfold zv z1i at h
  rw [hop] at h
  simp only [] at h
  split at h
  ·rename_i s hs
   split at h
   ·rename_i r hr
    cases h
    obtain ⟨⟨vs,hv,h1⟩,h2⟩:=z1d R rfl hs
    obtain ⟨v,cs,h3,h4,h5⟩:=zr4 h1 hr
    refine ⟨r,v,rfl,fun w=>?_,z1v h4 h5,zr5 hr ⟨h2.rows,h2.boxes⟩⟩
    unfold execOp
    rw [hop]
    simp only [hv,Instr.extract]
    rw [← Array.getElem?_toList,h3]
    rfl
   ·cases h
  ·cases h
 ·have h0:=h
  unfold zv z1i at h
  rw [hop] at h
  simp only [] at h
  split at h
  ·rename_i sx sy hx hy
   rw [z18] at h
   obtain ⟨⟨t1,x1⟩,h1,h⟩:=Option.bind_eq_some_iff.1 h
   rw [z18] at h
   obtain ⟨⟨t2,x2⟩,h2,h⟩:=Option.bind_eq_some_iff.1 h
   obtain ⟨cs,hr1,hw1⟩:=z8w R rfl hx h1
   obtain ⟨ds,hr2,hw2⟩:=z8w R rfl hy h2
   have fin:∀ {v:SVal} (u:Value),(∀ w,(do eqGuard op t p q (a.eval p) (a.eval q); binOp op t (a.eval p) (a.eval q):Sem Value).run P w=.ok u w)→(∃ s:SV,s=.val v.t v.x∧zq w0 ok M s u) →
     ∃ v' u,((SV.val v.t v.x,[],[]):Out)=(v',[],[])∧(∀ w,(execOp a.eval o).run P w=.ok (.value u) w)∧zq w0 ok M v' u∧Live σ v':=by
    rintro v u hz ⟨s,rfl,hs⟩
    refine ⟨_,u,rfl,fun w=>?_,hs,z3g _ _⟩
    have hz:=hz w
    unfold execOp
    rw [hop]
    simp only [Sem.run_bind] at hz ⊢
    rw [hz]
    rfl
   match t1,t2,x1,x2,h,hr1,hw1,hr2,hw2 with
   | .int k,.int l,x1,x2,h,hr1,hw1,hr2,hw2 =>
    have e1:=zek hr1 hw1
    have e2:=zek hr2 hw2
    rw [e1,e2] at fin
    have hi:∃ v,zeb op k x1 x2=some v∧k=l∧x=(.val v.t v.x,[],[]):=by
     rcases hopk with rfl | rfl | rfl <;> simp only [z6v] at h <;> split at h
     all_goals first
      | (rename_i hk; subst hk; simp only [zbh] at h; cases h; exact ⟨⟨.int k,_⟩,rfl,rfl,rfl⟩)
      | cases h
    obtain ⟨v,hv,rfl,rfl⟩:=hi
    have hvt:v.t=.int k:=by
     rcases hopk with rfl | rfl | rfl <;> (unfold zeb at hv; simp only [zbh] at hv; cases hv; rfl)
    obtain ⟨vt,vx⟩:=v
    cases hvt
    refine fin (v:=⟨.int k,vx⟩) (.int k vx) (fun w=>?_) ⟨_,rfl,⟨[.int k vx],rfl,.inr ⟨rfl,rfl⟩⟩⟩
    obtain ⟨u,hu1,hu2,_⟩:=zvd (P:=P) hv t p q w
    have:u=.int k vx:=by simpa [Rd] using hu2
    rw [← this]; exact hu1
   | .str,.str,x1,x2,h,hr1,hw1,hr2,hw2 =>
    have e1:=zaa hr1 hw1
    have e2:=zaa hr2 hw2
    rw [e1,e2] at fin
    have hi:∃ v,zec op x1 x2=some v∧x=(.val v.t v.x,[],[])∧v.t=.str:=by
     rcases hopk with rfl | rfl | rfl <;> simp only [z6v,zbi] at h
     ·split at h
      ·rename_i hl; cases h; exact ⟨⟨.str,x1++x2⟩,by unfold zec; simp only [zbi]; rw [if_pos hl],rfl,rfl⟩
      ·cases h
     ·cases h
     ·cases h
    obtain ⟨v,hv,rfl,hvt⟩:=hi
    obtain ⟨vt,vx⟩:=v
    cases hvt
    refine fin (v:=⟨.str,vx⟩) (.string ⟨vx.toArray⟩) (fun w=>?_) ⟨_,rfl,⟨[.string ⟨vx.toArray⟩],rfl,.inr ⟨rfl,rfl⟩⟩⟩
    obtain ⟨u,hu1,hu2,_⟩:=zve (P:=P) hv t p q w
    have:u=.string ⟨vx.toArray⟩:=by simpa [Rd] using hu2
    rw [← this]; exact hu1
   | .st t1,.st t2,x1,x2,h,hr1,hw1,hr2,hw2 =>
    exfalso
    rcases hopk with rfl | rfl | rfl <;> simp only [z6v] at h <;> (repeat' split at h) <;> first | cases h | contradiction
   | .bool,.bool,x1,x2,h,hr1,hw1,hr2,hw2 =>
    exfalso
    rcases hopk with rfl | rfl | rfl <;> simp only [z6v] at h <;> (repeat' split at h) <;> first | cases h | contradiction
  ·cases h

theorem z1cn {R0:Type} {o:Oper} (hm:za6 o=true) {k:St→Option R0}:za2 E σ o k=zbm E σ o k:=by
 obtain ⟨_,⟨s,hop | hop⟩ | ⟨p,n,hop⟩ | ⟨op,t,p,q,u,hop,hopk⟩⟩:=zl3 hm
 ·unfold za2; rw [hop]
 ·unfold za2; rw [hop]
 ·unfold za2; rw [hop]
 ·unfold za2; rw [hop]
  rcases hopk with rfl | rfl | rfl <;> rfl

section
variable {all : List Oper} {m : Nat} {Z : List Nat} {Q : Exit → Act → World → Prop} {L : Array Bool}
theorem zww (hs:L.size=all.length) {i:Nat} (hL:∀ t,L.getD t false=true↔t<i) (hi:i=all.length):Region.ready .any all.toArray L=[]:=by
 refine List.eq_nil_iff_forall_not_mem.2 fun j hj=>?_
 obtain ⟨h1,h2,_⟩:=zer.1 hj
 rw [zaj (by omega)] at h2
 have:=(hL j).2 (by omega)
 rw [this] at h2; cases h2
theorem zwx (hE:z5j 0 all=true) (hs:L.size=all.length) {i:Nat} (hL:∀ t,L.getD t false=true↔t<i) (hlt:i<all.length):i∈Region.ready .any all.toArray L :=
 zer.2 ⟨hlt,by
  rw [zaj (by omega)]
  cases hq:L.getD i false with
  | false=>rfl
  | true=>have:=(hL i).1 hq; omega,fun o ho e he hb=>(hL _).2 (by have:=zeq hE i o ho e he hb; omega)⟩
theorem zl4 (hs:L.size=all.length) {i:Nat} (hL:∀ t,L.getD t false=true↔t<i) (hlt:i<all.length):∀ t,(L.setIfInBounds i true).getD t false=true↔t<i+1:=fun t=>by
 rw [zrq (by omega),hL t]; omega
theorem zl5 (hE:z5j 0 all=true) (hT:TOK all m Z) (hs:L.size=all.length) {i:Nat} (hL:∀ t,L.getD t false=true↔t<i) (hm:m≤i) (hlt:i<all.length) (hnz:i∉Z) {fuel:Nat} (h:wpOp P all.toArray Q i (wpAny P .any all.toArray Q fuel (L.setIfInBounds i true)) a w):wpAny P .any all.toArray Q (fuel+1) L a w:=by
 have hmem:=zwx hE hs hL hlt
 have hcl:zl1 all (fun t=>t<i):=fun j o hj ho e he hb=>by
  have:=zeq hE j o ho e he hb
  omega
 refine ⟨fun h0=>absurd hmem (by rw [h0]; simp),fun i' hi'=>?_⟩
 obtain ⟨r1,r2,r3⟩:=zer.1 hi'
 rw [zaj (by omega)] at r2
 have hge':i≤i':=by
  rcases Nat.lt_or_ge i' i with h | h
  ·rw [(hL i').2 h] at r2; cases r2
  ·exact h
 have:i'=i:=by
  rcases Nat.lt_or_ge i i' with h | h
  ·exfalso
   have:=zro hE hcl i' all[i'] (List.getElem?_eq_getElem r1) (fun e he hb=>(hL _).1 (r3 _ (List.getElem?_eq_getElem r1) e he hb)) i ((hT i' (by omega) r1 i h).resolve_right hnz)
   exact Nat.lt_irrefl _ this
  ·omega
 subst this
 exact h
theorem z1co (hE:z5j 0 all=true) (hQp:∀ c a w,¬ Q (.panic c) a w) (hs:L.size=all.length) {i:Nat} (hL:∀ t,L.getD t false=true↔t<i) (hm:m≤i) (hlt:i<all.length) (hz:ZOK all m Z i) {o:Oper} (ho:all[i]?=some o) {u:Value} (hg:o.guard=none) (hrun:∀ w,(execOp a.eval o).run P w=.ok (.value u) w) {fuel:Nat}
  (h:wpAny P .any all.toArray Q fuel (L.setIfInBounds i true) (a.put o.dst u) w):wpAny P .any all.toArray Q (fuel+1) L a w:=by
 have hoa:all.toArray[i]?=some o:=by simpa using ho
 obtain ⟨hsel,_,hfree⟩:=hz
 refine wpAny_first hoa (Region.noSelect_spec hsel) (fun c a w h=>absurd h (hQp c _ w)) fuel L a w (fun j oj hj hji hun hno=>?_) (zwx hE hs hL hlt) (.inl ⟨by unfold Region.wanted; rw [hg],hrun⟩) h
 have hjl:j<all.length:=by
  have:=(Array.getElem?_eq_some_iff.1 hj).1
  simpa using this
 refine Region.free_spec hoa hfree j oj hj hji ?_ hno
 have hji2:¬ j<i:=fun h=>by
  have:=(hL j).2 h
  rw [zaj (by omega)] at hun
  rw [this] at hun; cases hun
 have:(zbp all.length Z m i).getD j true=(Nat.blt j i&&(Nat.ble m i||Z.any (Nat.beq j))):=by
  simp [zbp,Array.getD_eq_getD_getElem?,hjl]
 rw [this]
 cases hb:Nat.blt j i with
 | false=>rfl
 | true=>exact absurd (Nat.le_of_ble_eq_true hb) hji2

theorem zwy [Glob P] {R0:Type} {res:R0} (T:zi P E.ti=true) (EQ:z2j P E) {n:Nat} (hZ:∀ t∈Z,ZOK all m Z t) (hE:z5j 0 all=true) (hT:TOK all m Z) (hQp:∀ c a w,¬ Q (.panic c) a w)
  (hB:∀ o∈all,∀ d,o.dst=some d→d<n) {k:St→Option R0} :
  ∀ (fuel:Nat) {w0:World} {ok O:Nat→Prop},SpecOK P E w0 O→z3h P E w0 O→z1z E w0 ok O res n k (Q .normal)→∀ (i:Nat) (L:Array Bool) (σ:St) (a:Act) (w:World) (M:Map),L.size=all.length→(∀ t,L.getD t false=true↔t<i)→m≤i→i≤all.length→all.length≤fuel+i→z6w E all i (all.drop i) σ k=some res →
   Rep E w0 ok O σ a.tmps w M→a.tmps.size=n→a.defers=[]→wpAny P .any all.toArray Q fuel L a w:=by
 intro fuel
 induction fuel with
 | zero =>
  intro w0 ok O S K hQ i L σ a w M hs hL hm hi hf h R hn hd
  have he:i=all.length:=by omega
  subst he
  rw [List.drop_length] at h
  exact ⟨zww hs hL rfl,hQ.at σ a w M h R hn hd⟩
 | succ fuel ih =>
  intro w0 ok O S K hQ i L σ a w M hs hL hm hi hf h R hn hd
  rcases Nat.lt_or_ge i all.length with hlt | hge
  ·have hdrop:all.drop i=all[i]::all.drop (i+1):=List.drop_eq_getElem_cons hlt
   rw [hdrop] at h
   have hia:all.toArray[i]?=some all[i]:=by simp [hlt]
   have hin:inB all[i].dst a.tmps:=fun d hd=>by rw [hn]; exact hB _ (List.getElem_mem hlt) d hd
   have hL':=zl4 hs hL hlt
   simp only [z6w] at h
   by_cases hz:i∈Z
   ·have hzi:=hZ i hz
    obtain ⟨_,⟨o,ho,hmv,_⟩,_⟩:=hzi
    have ho2:=ho
    rw [List.getElem?_eq_getElem hlt] at ho2
    cases ho2
    obtain ⟨hg,_⟩:=zl3 hmv
    simp only [z4j,hg] at h
    rw [z1cn hmv] at h
    unfold zbm at h
    rw [zqw] at h
    obtain ⟨out,h1,h2⟩:=Option.bind_eq_some_iff.1 h
    have R':=R.clean (z12 all[i])
    obtain ⟨v,u,rfl,hrun,hu2,hlv⟩:=zwv R' T EQ hmv h1
    cases hf2:(σ.clean (z12 all[i])).fresh (z12 all[i]) [] [] <;> rw [hf2] at h2
    ·cases h2
    ·simp only [cond_true] at h2
     have R2:=R'.putV (d:=all[i].dst) hu2 hlv hin
     obtain ⟨σ2,h3,R3⟩:=zrj R2 h2
     refine z1co hE hQp hs hL hm hlt (hZ i hz) ho hg hrun (ih S K hQ (i+1) _ σ2 (a.put all[i].dst u) w M (by simpa using hs) hL' (by omega) (by omega) (by omega) h3 (by rw [z1w]; exact R3) (by rw [z1w,z4o,hn]) (by rw [z5b]; exact hd))
   ·refine zl5 hE hT hs hL hm hlt hz ?_
    unfold wpOp
    rw [hia]
    simp only []
    rcases zkx R h with ⟨hw,h⟩ | ⟨hw,h⟩
    ·rw [if_pos hw]
     refine .inl (zwm R T EQ S K hin hd h ?_)
     intro w2 ok2 O2 hc σ1 a1 w1 M1 h1 R1 hn1 hd1
     obtain ⟨σ2,h2,R2⟩:=zrj R1 h1
     exact ih (S.chg hc) (K.chg hc) (hQ.chg hc) (i+1) _ σ2 a1 w1 M1 (by simpa using hs) hL' (by omega) (by omega) (by omega) h2 R2 (by rw [hn1,hn]) hd1
    ·rw [if_neg (by rw [hw]; simp)]
     refine ih S K hQ (i+1) _ _ _ w M (by simpa using hs) hL' (by omega) (by omega) (by omega) h ?_ (by rw [z1w,z4o,hn]) (by rw [z5b]; exact hd)
     rw [z1w]
     exact R.putSkip hin
  ·have he:i=all.length:=by omega
   subst he
   rw [List.drop_length] at h
   have h0:=zww hs hL rfl
   exact ⟨fun _=>hQ.at σ a w M h R hn hd,fun i' hi'=>by rw [h0] at hi'; cases hi'⟩
theorem zwz [Glob P] {R0:Type} {res:R0} (T:zi P E.ti=true) (EQ:z2j P E) {n:Nat} (hZ:∀ t∈Z,ZOK all m Z t) (hE:z5j 0 all=true) (hT:TOK all m Z) (hQp:∀ c a w,¬ Q (.panic c) a w)
  (hB:∀ o∈all,∀ d,o.dst=some d→d<n) {k:St→Option R0} (fuel:Nat) {w0:World} {ok O:Nat→Prop} (S:SpecOK P E w0 O) (K:z3h P E w0 O) (hQ:z1z E w0 ok O res n k (Q .normal)) (i:Nat) (L:Array Bool) (σ:St) (a:Act) (w:World) (M:Map) (hs:L.size=all.length) (hL:∀ t,L.getD t false=true↔t<i) (hm:m≤i) (hi:i≤all.length) (hf:all.length≤fuel+i) (h:ze5 E all i (all.drop i) σ k=some res)
   (R:Rep E w0 ok O σ a.tmps w M) (hn:a.tmps.size=n) (hd:a.defers=[]):wpAny P .any all.toArray Q fuel L a w:=by
 have plainly:=fun h=>zwy T EQ hZ hE hT hQp hB fuel S K hQ i L σ a w M hs hL hm hi hf h R hn hd
 unfold ze5 at h
 split at h
 ·rename_i l d1 args ts ty1 po1 af1 d2 xt p q ty2 po2 af2 t' s2 s1 ty3 po3 af3 r hl
  split at h
  ·rename_i x y t tx hargs hts
   split at h
   ·rename_i j ni hx
    cases hb:(Nat.beq s1 d1&&(Nat.beq s2 d2&&!Nat.beq d1 d2)) <;> rw [hb] at h
    ·cases h
    ·simp only [Bool.and_eq_true,Bool.not_eq_true'] at hb
     obtain ⟨b1,b2,b3⟩:=hb
     have b1:=Nat.eq_of_beq_eq_true b1
     have b2:=Nat.eq_of_beq_eq_true b2
     subst b1 b2
     have b3:s1≠s2:=fun e=>by subst e; simp at b3
     simp only [cond_true] at h
     have ha:args=#[x,y]:=by apply Array.ext'; rw [hargs]
     have ht:ts=#[t,tx]:=by apply Array.ext'; rw [hts]
     subst ha ht
     have g0:∀ j,(all.drop i)[j]?=all[i+j]?:=fun j=>by rw [List.getElem?_drop]
     have o1:=g0 0
     have o2:=g0 1
     have o3:=g0 2
     rw [hl] at o1 o2 o3
     have hl3:all.drop (i+3)=r:=by
      have:(all.drop i).drop 3=r:=by rw [hl]; rfl
      rwa [List.drop_drop] at this
     have l3:i+2<all.length:=(List.getElem?_eq_some_iff.1 o3.symm).1
     have nz:∀ j o,all[j]?=some o→za6 o=false→j∉Z:=fun j o ho hk hz=>by
      obtain ⟨_,⟨o',ho',hm',_⟩,_⟩:=hZ j hz
      rw [ho] at ho'; cases ho'
      rw [hk] at hm'; cases hm'
     obtain ⟨fuel,rfl⟩:∃ f,fuel=f+3:=⟨fuel-3,by omega⟩
     have hi1:s1<a.tmps.size:=by rw [hn]; exact hB _ (List.mem_of_getElem? o1.symm) s1 rfl
     have hi2:s2<a.tmps.size:=by rw [hn]; exact hB _ (List.mem_of_getElem? o2.symm) s2 rfl
     have w1:=z1c7 (P:=P) R T hi1 hi2 b3 hx h
     have wop:∀ (j:Nat) (o:Oper) (K:Act→World→Prop) (a:Act) (w:World),all[j]?=some o→o.guard=none→o.wp P a w K Q→wpOp P all.toArray Q j K a w:=fun j o K a w ho hg hw=>by
      unfold wpOp
      rw [show all.toArray[j]?=some o by simpa using ho]
      simp only []
      rw [if_pos (by unfold Region.wanted; rw [hg])]
      exact .inl hw
     have hL1:=zl4 hs hL (by omega:i<all.length)
     have hL2:=zl4 (L:=L.setIfInBounds i true) (by simpa using hs) hL1 (by omega)
     have hL3:=zl4 (L:=(L.setIfInBounds i true).setIfInBounds (i+1) true) (by simpa using hs) hL2 (by omega)
     refine zl5 hE hT hs hL hm (by omega) (nz i _ o1.symm rfl) (wop _ _ _ _ _ o1.symm rfl ?_)
     refine Oper.wp_mono (K:=fun a1 w1=>Oper.wp P ⟨some s2,.indexAddr xt p q,ty2,po2,af2,none⟩ a1 w1 (fun a2 w2=>Oper.wp P ⟨none,.store t' (.tmp s2) (.tmp s1),ty3,po3,af3,none⟩ a2 w2 (fun a3 w3=>wpAny P .any all.toArray Q fuel (((L.setIfInBounds i true).setIfInBounds (i+1) true).setIfInBounds (i+2) true) a3 w3) Q) Q) (fun a1 w1 h1=>?_) (w1 ty1 po1 af1 ty2 po2 af2 ty3 po3 af3 (fun σ' w' M' a' h' R' ha' hd'=>?_))
     ·refine zl5 hE hT (by simpa using hs) hL1 (by omega) (by omega) (nz (i+1) _ o2.symm rfl) (wop _ _ _ _ _ o2.symm rfl ?_)
      exact Oper.wp_mono (fun a2 w2 h2=>zl5 hE hT (by simpa using hs) hL2 (by omega) (by omega) (nz (i+2) _ o3.symm rfl) (wop _ _ _ _ _ o3.symm rfl h2)) h1
     ·rw [← hl3] at h'
      exact zwy T EQ hZ hE hT hQp hB fuel S K hQ (i+3) _ σ' a' w' M' (by simpa using hs) hL3 (by omega) (by omega) (by omega) h' R' (by rw [ha',hn]) (by rw [hd',hd])
   ·exact plainly h
  ·exact plainly h
 ·exact plainly h
end

theorem z1cp [Glob P] {R0:Type} {res:R0} (T:zi P E.ti=true) (EQ:z2j P E) (S:SpecOK P E w0 O) (K:z3h P E w0 O) {all:List Oper} {m n:Nat} {base σ':St} {outs:List Out} (F:FreeP E all m base outs) (hc:Chars base all outs m σ') {Z:List Nat} (hZ:∀ t∈Z,ZOK all m Z t)
  (hT:TOK all m Z) (hB:∀ o∈all,∀ d,o.dst=some d→d<n) {k:St→Option R0} {Q:Exit→Act→World→Prop} (hQ:z1z E w0 ok O res n k (Q .normal)) (hQp:∀ c a w,¬ Q (.panic c) a w)
  (hk:ze5 E all m (all.drop m) (σ'.promAll E) k=some res) :
  ∀ (fuel:Nat) (ds:List Nat) (L:Array Bool) (σD:St) (a:Act) (w:World) (M:Map),L.size=all.length→(∀ t,L.getD t false=true↔t∈ds)→ds.Nodup→(∀ t∈ds,t<m)→(∀ t∈Z,t<m→t∈ds)→all.length≤fuel+ds.length→zl1 all (·∈ds)→Done base all outs (·∈ds) σD →
   Rep E w0 ok O σD a.tmps w M→a.tmps.size=n→a.defers=[]→wpAny P .any all.toArray Q fuel L a w:=by
 intro fuel
 induction fuel with
 | zero =>
  intro ds L σD a w M hs hL hnd hdm hzd hf hcl hD R hn hd
  by_cases hall:∀ t,t<m→t∈ds
  ·have hiff:∀ t,L.getD t false=true↔t<m:=fun t=>(hL t).trans ⟨hdm t,hall t⟩
   obtain ⟨M2,R2⟩:=zwu (final_rep F hc hD hall R)
   exact zwz T EQ hZ F.edges hT hQp hB 0 S K hQ m L _ a w M2 hs hiff (Nat.le_refl _) F.le (by
    have:=zic m ds hnd hdm
    omega) hk R2 hn hd
  ·exfalso
   have:∃ t,t<m∧t∉ds:=Classical.byContradiction fun hne=>hall fun t ht=>Classical.byContradiction fun h=>hne ⟨t,ht,h⟩
   obtain ⟨t,ht,hn'⟩:=this
   have:=zic m (t::ds) (List.nodup_cons.2 ⟨hn',hnd⟩) (fun x hx=>by rcases List.mem_cons.1 hx with rfl | hx; exact ht; exact hdm x hx)
   have:=F.le
   simp only [List.length_cons] at *
   omega
 | succ fuel ih =>
  intro ds L σD a w M hs hL hnd hdm hzd hf hcl hD R hn hd
  by_cases hall:∀ t,t<m→t∈ds
  ·have hiff:∀ t,L.getD t false=true↔t<m:=fun t=>(hL t).trans ⟨hdm t,hall t⟩
   obtain ⟨M2,R2⟩:=zwu (final_rep F hc hD hall R)
   exact zwz T EQ hZ F.edges hT hQp hB (fuel+1) S K hQ m L _ a w M2 hs hiff (Nat.le_refl _) F.le (by
    have:=zic m ds hnd hdm
    omega) hk R2 hn hd
  ·have:∃ t,t<m∧t∉ds:=Classical.byContradiction fun hne=>hall fun t ht=>Classical.byContradiction fun h=>hne ⟨t,ht,h⟩
   obtain ⟨t,ht,hnt⟩:=this
   obtain ⟨s,s1,s2,s3⟩:=z1cm (D:=(·∈ds)) t hnt
   have hsm:s<m:=by omega
   have hsl:s<all.length:=Nat.lt_of_lt_of_le hsm F.le
   have hmem:s∈Region.ready .any all.toArray L:=zer.2 ⟨hsl,by
    rw [zaj (by omega)]
    cases hq:L.getD s false with
    | false=>rfl
    | true=>exact absurd ((hL s).1 hq) s2,fun o ho e he hb=>(hL _).2 (s3 _ (by have:=zeq F.edges s o ho e he hb; omega))⟩
   refine ⟨fun h0=>absurd hmem (by rw [h0]; simp),fun i hi=>?_⟩
   obtain ⟨r1,r2,r3⟩:=zer.1 hi
   rw [zaj (by omega)] at r2
   have hni:i∉ds:=fun h=>by rw [(hL i).2 h] at r2; cases r2
   have hp:=zro F.edges hcl i all[i] (List.getElem?_eq_getElem r1) (fun e he hb=>(hL _).1 (r3 _ (List.getElem?_eq_getElem r1) e he hb))
   rcases Nat.lt_or_ge i m with him | him
   ·refine z1ch T EQ S F hD hdm him hni hp hB R hn hd fun σ1 a1 w1 M1 hD1 R1 hn1 hd1=>?_
    have hD2:Done base all outs (·∈i::ds) σ1:=by
     have e:(fun t=>t=i∨t∈ds)=(·∈i::ds):=by funext t; simp
     rw [← e]; exact hD1
    refine ih (i::ds) _ σ1 a1 w1 M1 (by simpa using hs) (fun t=>?_) (List.nodup_cons.2 ⟨hni,hnd⟩) (fun x hx=>?_) (fun x hx hxm=>List.mem_cons_of_mem _ (hzd x hx hxm)) (by simp only [List.length_cons]; omega) ?_ hD2 R1 hn1 hd1
    ·rw [zrq (by omega),hL t]; simp
    ·rcases List.mem_cons.1 hx with rfl | hx
     ·exact him
     ·exact hdm x hx
    ·intro j o hj ho e he hb
     rcases List.mem_cons.1 hj with rfl | hj
     ·exact List.mem_cons_of_mem _ ((hL _).1 (r3 o ho e he hb))
     ·exact List.mem_cons_of_mem _ (hcl j o hj ho e he hb)
   ·rcases hT i him r1 t (by omega) with h | h
    ·exact absurd (hp t h) hnt
    ·exact absurd (hzd t h ht) hnt
where
 final_rep {all:List Oper} {m:Nat} {base σ' σD:St} {outs:List Out} {ds:List Nat} {a:Act} {w:World} {M:Map} (F:FreeP E all m base outs) (hc:Chars base all outs m σ') (hD:Done base all outs (·∈ds) σD) (hall:∀ t,t<m→t∈ds) (R:Rep E w0 ok O σD a.tmps w M):Rep E w0 ok O σ' a.tmps w M:=by
  have hle:Le σ' σD:=by
   constructor
   ·intro s v h
    rcases hc.sl s v h with h | ⟨t,o,x,ht,ho,hx,hd,rfl⟩
    ·exact hD.sl s v h
    ·exact hD.out t o x s (hall t ht) ho hx hd
   ·intro s v h
    rcases hc.rows s v h with h | ⟨t,x,ht,hx,h⟩
    ·exact hD.rows s v h
    ·exact hD.rowsO t x s v (hall t ht) hx h
   ·intro s v h
    rcases hc.bx s v h with h | ⟨t,x,ht,hx,h⟩
    ·exact hD.bx s v h
    ·exact hD.bxO t x s v (hall t ht) hx h
  have live:∀ u,Live σD u→Live σ' u:=fun u hu=>⟨fun i hi=>by
   obtain ⟨r,hr⟩:=hu.rows i hi
   rcases hD.rowsB i r hr with h | ⟨j,x,r',hj,hx,h⟩
   ·exact hc.rows' i ⟨r,h⟩
   ·have hjm:j<m:=by
     have:=(List.getElem?_eq_some_iff.1 hx).1
     rw [F.len] at this; exact this
    exact hc.rowsO j x i hjm hx ⟨r',h⟩,fun i hi=>by
   obtain ⟨r,hr⟩:=hu.boxes i hi
   rcases hD.bxB i r hr with h | ⟨j,x,r',hj,hx,h⟩
   ·exact hc.bx' i ⟨r,h⟩
   ·have hjm:j<m:=by
     have:=(List.getElem?_eq_some_iff.1 hx).1
     rw [F.len] at this; exact this
    exact hc.bxO j x i hjm hx ⟨r',h⟩⟩
  exact R.le hle (fun s v h=>live v (R.liveS s v (hle.sl s v h))) (fun i b h=>live b.c (R.liveB i b (hle.bx i b h)))

theorem zx0:∀ {l:List Oper} {ds:List Nat},zk9 l=some ds→ds.length=l.length∧∀ (j:Nat) (o:Oper),l[j]?=some o→∃ d,o.dst=some d∧ds[j]?=some d
 | [],ds,h=>by cases h; exact ⟨rfl,fun j o hj=>by simp at hj⟩
 | o::l,ds,h=>by
  simp only [zk9] at h
  split at h
  ·rename_i d ds' h1 h2
   cases h
   obtain ⟨e1,e2⟩:=zx0 h2
   refine ⟨by simp [e1],fun j o' hj=>?_⟩
   cases j with
   | zero=>simp at hj; subst hj; exact ⟨d,h1,rfl⟩
   | succ j=>simp only [List.getElem?_cons_succ] at hj ⊢; exact e2 j o' hj
  ·cases h

theorem z1cq {all:List Oper} (hle:z4k (z15 all []) 0≤all.length) (hT:∀ j,z4k (z15 all []) 0≤j→j<all.length→zbo j ((z15 all []).getD j 0)=true) :
  (z5a E all (z15 all [])).1≤all.length∧(z5a E all (z15 all [])).2.Pairwise (·<·) ∧
  (∀ t∈(z5a E all (z15 all [])).2,ZOK all (z5a E all (z15 all [])).1 (z5a E all (z15 all [])).2 t)∧TOK all (z5a E all (z15 all [])).1 (z5a E all (z15 all [])).2:=by
 have base:z4k (z15 all []) 0≤all.length∧([]:List Nat).Pairwise (·<·)∧(∀ t∈([]:List Nat),ZOK all (z4k (z15 all []) 0) [] t)∧TOK all (z4k (z15 all []) 0) [] :=
  ⟨hle,.nil,fun t ht=>(nomatch ht),fun j h1 h2 t ht=>.inl (z1ce (hT j h1 h2) ht)⟩
 unfold z5a
 simp only []
 cases hb0:Nat.blt (zbq E all 0) (z4k (z15 all []) 0)
 ·exact base
 ·simp only [cond_true]
  have hb0:zbq E all 0<z4k (z15 all []) 0:=Nat.le_of_ble_eq_true hb0
  generalize hz:((List.range all.length).filter fun t=>(List.range all.length).any fun j=>Nat.ble (zbq E all 0) j&&(Nat.blt t j&&!Nat.testBit ((z15 all []).getD j 0) t))=z
  cases hb:(z5j 0 all&&(Region.noSelect all.toArray&&z.all (fun i=>(match all[i]? with | some o=>za6 o&&(Nat.ble (zbq E all 0) i||zur z o) | none=>false)&&Region.free .any all.toArray (zbp all.length z (zbq E all 0) i) i)))
  ·exact base
  ·simp only [cond_true]
   simp only [Bool.and_eq_true] at hb
   obtain ⟨_,h2,h3⟩:=hb
   refine ⟨by omega,hz▸List.Pairwise.sublist List.filter_sublist List.pairwise_lt_range,fun t ht=>?_,fun j hj hl t ht=>?_⟩
   ·have h4:=List.all_eq_true.1 h3 t ht
    simp only [Bool.and_eq_true] at h4
    refine ⟨h2,?_,h4.2⟩
    cases ho:all[t]? with
    | none=>rw [ho] at h4; cases h4.1
    | some o =>
     rw [ho] at h4
     simp only [Bool.and_eq_true,Bool.or_eq_true] at h4
     refine ⟨o,rfl,h4.1.1,fun htm e he hb=>?_⟩
     rcases h4.1.2 with h5 | h5
     ·exact absurd (Nat.le_of_ble_eq_true h5) (by omega)
     ·have:=List.all_eq_true.1 h5 e he
      rw [hb] at this
      simpa using this
   ·cases hq:((z15 all []).getD j 0).testBit t with
    | true=>exact .inl rfl
    | false =>
     refine .inr ?_
     rw [← hz,List.mem_filter,List.mem_range]
     refine ⟨by omega,List.any_eq_true.2 ⟨j,List.mem_range.2 hl,?_⟩⟩
     rw [hq,Nat.ble_eq_true_of_le hj,show Nat.blt t j=true from Nat.ble_eq_true_of_le ht]; rfl

theorem zx1 [Glob P] {R0:Type} {res:R0} (T:zi P E.ti=true) (EQ:z2j P E) (S:SpecOK P E w0 O) (K:z3h P E w0 O) {all:List Oper} {m n:Nat} {base σ':St} {outs:List Out} (F:FreeP E all m base outs) (hc:Chars base all outs m σ') {Z:List Nat}
  (hZ:∀ t∈Z,ZOK all m Z t)
  (hT:TOK all m Z) (hB:∀ o∈all,∀ d,o.dst=some d→d<n) {k:St→Option R0} {Q:Exit→Act→World→Prop} (hQ:z1z E w0 ok O res n k (Q .normal)) (hQp:∀ c a w,¬ Q (.panic c) a w)
  (hk:ze5 E all m (all.drop m) (σ'.promAll E) k=some res) :
  ∀ (zs ds:List Nat) (fuel:Nat) (L:Array Bool) (σD:St) (a:Act) (w:World) (M:Map),zs.Pairwise (·<·)→(∀ t∈zs,t∉ds)→ds.Nodup→(∀ t∈zs,t∈Z∧t<m)→(∀ t∈ds,t∈Z∧t<m)→(∀ t∈Z,t<m→t∈ds∨t∈zs)→zl1 all (·∈ds)→L.size=all.length→(∀ t,L.getD t false=true↔t∈ds)→all.length=fuel+ds.length→Done base all outs (·∈ds) σD →
   Rep E w0 ok O σD a.tmps w M→a.tmps.size=n→a.defers=[]→wpAny P .any all.toArray Q fuel L a w
 | [],ds,fuel,L,σD,a,w,M,hpw,hzd,hnd,hzs,hds,hall,hcl,hs,hL,hf,hD,R,hn,hd =>
  z1cp T EQ S K F hc hZ hT hB hQ hQp hk fuel ds L σD a w M hs hL hnd (fun t ht=>(hds t ht).2) (fun t ht htm=>(hall t ht htm).resolve_right (by simp)) (by omega) hcl hD R hn hd
 | z::zs,ds,fuel,L,σD,a,w,M,hpw,hzds,hnd,hzs,hds,hall,hcl,hs,hL,hf,hD,R,hn,hd=>by
  obtain ⟨hzZ,hzm⟩:=hzs z (by simp)
  obtain ⟨hsel,⟨o,ho,hm,haft⟩,hfree⟩:=hZ z hzZ
  obtain ⟨hg,_⟩:=zl3 hm
  have haft:=haft hzm
  have hpw2:=List.pairwise_cons.1 hpw
  have hzd:z∉ds:=hzds z (by simp)
  have hzl:z<all.length:=Nat.lt_of_lt_of_le hzm F.le
  -- what comes ahead of z is done
  have hback:∀ t∈Z,t<z→t∈ds:=fun t ht hlt=>by
   rcases hall t ht (by omega) with h | h
   ·exact h
   ·rcases List.mem_cons.1 h with rfl | h
    ·omega
    ·have:=hpw2.1 t h
     omega
  have hafter:∀ e∈o.after.toList,Region.binds .any e=true→e.on∈ds:=fun e he hb=>hback _ (haft e he hb) (by have:=zeq F.edges z o ho e he hb; omega)
  obtain ⟨fuel,rfl⟩:∃ f,fuel=f+1:=by
   refine ⟨fuel-1,?_⟩
   have:=zic all.length (z::ds) (List.nodup_cons.2 ⟨hzd,hnd⟩) (fun x hx=>by
    rcases List.mem_cons.1 hx with rfl | hx
    ·exact hzl
    ·exact Nat.lt_of_lt_of_le (hds x hx).2 F.le)
   simp only [List.length_cons] at this
   omega
  have hoa:all.toArray[z]?=some o:=by simpa using ho
  obtain ⟨σj,o',x,h1,hx,htr,hcj⟩:=F.at_ z hzm
  rw [ho] at h1; cases h1
  have hle:Le (σj.hide (z3n all ((z15 all []).getD z 0) z)) σD:=zwr F hD hzm (zro F.edges hcl z o ho hafter) hcj
  have hpu:zv E σD o=some x:=by
   rcases htr with ⟨_,hpu,_⟩ | ⟨hw,_⟩
   ·exact zuw hle hpu
   ·simp only [z4j,hg] at hw
    cases hw
  obtain ⟨v,u,rfl,hrun,hu2,hlv⟩:=zwv R T EQ hm hpu
  have hin:inB o.dst a.tmps:=fun d hd=>by rw [hn]; exact hB o (List.mem_of_getElem? ho) d hd
  have hY:Yields P all.toArray o u a:=.inl ⟨by unfold Region.wanted; rw [hg],hrun⟩
  refine wpAny_first hoa (Region.noSelect_spec hsel) (fun c a w h=>absurd h (hQp c _ w)) fuel L a w (fun j oj hj hji hun hno=>?_) ?_ hY ?_
  ·have hjl:j<all.length:=by
    have:=(Array.getElem?_eq_some_iff.1 hj).1
    simpa using this
   refine Region.free_spec hoa hfree j oj hj hji ?_ hno
   have hjd:j∉ds:=fun h=>by
    have:=(hL j).2 h
    rw [zaj (by omega)] at hun
    rw [this] at hun; cases hun
   have:(zbp all.length Z m z).getD j true=(Nat.blt j z&&(Nat.ble m z||Z.any (Nat.beq j))):=by
    simp [zbp,Array.getD_eq_getD_getElem?,hjl]
   rw [this]
   have hmz:Nat.ble m z=false:=by
    cases hq:Nat.ble m z with
    | false=>rfl
    | true=>exact absurd (Nat.le_of_ble_eq_true hq) (by omega)
   rw [hmz,Bool.false_or]
   cases h2:Nat.blt j z with
   | false=>rfl
   | true =>
    cases h1:Z.any (Nat.beq j) with
    | false=>rfl
    | true =>
     have hjZ:j∈Z:=by simpa using h1
     exact absurd (hback j hjZ (Nat.le_of_ble_eq_true h2)) hjd
  ·refine zer.2 ⟨hzl,?_,fun o2 ho2 e he hb=>?_⟩
   ·rw [zaj (by omega)]
    cases hq:L.getD z false with
    | false=>rfl
    | true=>exact absurd ((hL z).1 hq) hzd
   ·rw [ho] at ho2; cases ho2
    exact (hL _).2 (hafter e he hb)
  ·have hD1:=Done.step F hD (fun t ht=>(hds t ht).2) hzm ho hx ⟨fun k ⟨r,hr⟩=>(nomatch hr),fun k ⟨r,hr⟩=>(nomatch hr)⟩
   have hD2:Done base all outs (·∈z::ds) (z5e σD o (v,[],[])):=by
    have e:(fun t=>t=z∨t∈ds)=(·∈z::ds):=by funext t; simp
    rw [← e]; exact hD1
   refine zx1 T EQ S K F hc hZ hT hB hQ hQp hk zs (z::ds) fuel _ (z5e σD o (v,[],[])) (a.put o.dst u) w M hpw2.2 (fun t ht=>?_) (List.nodup_cons.2 ⟨hzd,hnd⟩) (fun t ht=>hzs t (List.mem_cons_of_mem _ ht)) (fun t ht=>?_) (fun t ht htm=>?_) (fun j oj hj hoj e he hb=>?_) (by simpa using hs) (fun t=>?_) (by simp only [List.length_cons]; omega) hD2 ?_ (by rw [z1w,z4o,hn]) (by rw [z5b]; exact hd)
   ·intro h
    rcases List.mem_cons.1 h with rfl | h
    ·exact Nat.lt_irrefl _ (hpw2.1 _ ht)
    ·exact hzds t (List.mem_cons_of_mem _ ht) h
   ·rcases List.mem_cons.1 ht with rfl | ht
    ·exact hzs _ (by simp)
    ·exact hds t ht
   ·rcases hall t ht htm with h | h
    ·exact .inl (List.mem_cons_of_mem _ h)
    ·rcases List.mem_cons.1 h with rfl | h
     ·exact .inl (by simp)
     ·exact .inr h
   ·rcases List.mem_cons.1 hj with rfl | hj
    ·rw [ho] at hoj; cases hoj
     exact List.mem_cons_of_mem _ (hafter e he hb)
    ·exact List.mem_cons_of_mem _ (hcl j oj hj hoj e he hb)
   ·rw [zrq (by omega),hL t]; simp
   ·rw [z1w]
    exact R.putV hu2 hlv hin

theorem z1cr [Glob P] {R0:Type} {res:R0} (T:zi P E.ti=true) (EQ:z2j P E) (S:SpecOK P E w0 O) (K:z3h P E w0 O) (hmix:P.follows .mixedOrders=true) {all:List Oper} {n id:Nat} (hB:∀ o∈all,∀ d,o.dst=some d→d<n) {k:St→Option R0} {Q:Exit→Act→World→Prop} (hQ:z1z E w0 ok O res n k (Q .normal))
  {σ:St} {a:Act} {w:World} {M:Map} (h:zqu E all σ k=some res) (R:Rep E w0 ok O σ a.tmps w M) (hn:a.tmps.size=n) (hd:a.defers=[]):(Code.region id all.toArray true).wp P Q a w:=by
 unfold zqu at h
 simp only [] at h
 split at h
 ·rename_i ds hds
  cases hb:(z57 ds&&z5j 0 all) <;> rw [hb] at h
  ·cases h
  ·simp only [Bool.and_eq_true] at hb
   have hnd:=zv0 hb.1
   simp only [cond_true] at h
   obtain ⟨outs,σ',g1,g2,g3,g4⟩:=zrl _ _ _ _ h
   obtain ⟨t1,t2⟩:=z1cb g1
   obtain ⟨d1,d2⟩:=zx0 hds
   obtain ⟨pr,pr1,pr2⟩:=zrm all []
   have hlen:(z15 all []).length=all.length:=by rw [pr1]; simp [pr2]
   have hfl:∀ (ps:List Nat) (i:Nat),z4k ps i≤ps.length:=by
    intro ps
    induction ps with
    | nil=>intro i; exact Nat.le_refl _
    | cons p ps ih =>
     intro i
     simp only [z4k]
     have:=ih (i+1)
     split
     ·cases zbo i p <;> simp
     ·rename_i n hn; rw [hn] at this; simp; omega
   have hmle:z4k (z15 all []) 0≤all.length:=by rw [← hlen]; exact hfl _ _
   have hT:∀ j,z4k (z15 all []) 0≤j→j<all.length→zbo j ((z15 all []).getD j 0)=true:=by
    intro j hj hlt
    have hget:(z15 all [])[j]?=some (z15 all [])[j]:=List.getElem?_eq_getElem (by omega)
    have:=zrn (z15 all []) 0 j _ hj hget
    rw [Nat.zero_add] at this
    rw [List.getD_eq_getElem?_getD,hget]; exact this
   obtain ⟨hmle,hznd,hZ,hT⟩:=z1cq (E:=E) hmle hT
   have hplen:((z15 all []).take (z5a E all (z15 all [])).1).length=(z5a E all (z15 all [])).1:=by rw [List.length_take,hlen]; omega
   rw [hplen] at g2 g3 g4
   rw [Nat.zero_add] at g4
   have hdtake:ds.length=(z5a E all (z15 all [])).1:=by rw [d1,List.length_take]; omega
   have F:FreeP E all (z5a E all (z15 all [])).1 (σ.hideS ds) outs:=by
    refine ⟨g2,hmle,hb.2,fun j o hj ho=>?_,fun i j o o' d hi hj ho ho' hd hd'=>?_,fun j hj=>?_⟩
    ·obtain ⟨d,e1,e2⟩:=d2 j o (by rw [List.getElem?_take_of_lt hj]; exact ho)
     refine ⟨d,e1,?_⟩
     show lk (σ.sl.filter (fun x=>!(ds.any (Nat.beq x.1)))) d=none
     rw [zbz (fun n=>!(ds.any (Nat.beq n))),if_neg (fun hh=>zl0.1 hh (List.mem_of_getElem? e2))]
    ·obtain ⟨d3,e1,e2⟩:=d2 i o (by rw [List.getElem?_take_of_lt hi]; exact ho)
     obtain ⟨d4,e3,e4⟩:=d2 j o' (by rw [List.getElem?_take_of_lt hj]; exact ho')
     rw [hd] at e1; rw [hd'] at e3
     cases e1; cases e3
     have hi':i<ds.length:=by omega
     have hj':j<ds.length:=by omega
     have:=(List.getElem?_eq_some_iff.1 e2).2.trans (List.getElem?_eq_some_iff.1 e4).2.symm
     exact zrp hnd hi' hj' this
    ·obtain ⟨σj,o,x,p,h1,h2,h3,h4,h5⟩:=t1 j (by rw [g2]; exact hj)
     rw [Nat.zero_add] at h4
     have:(z15 all []).getD j 0=p:=by
      rw [List.getElem?_take_of_lt hj] at h3
      rw [List.getD_eq_getElem?_getD,h3]; rfl
     rw [this]
     exact ⟨σj,o,x,h1,h2,h4,h5⟩
   have R1:Rep E w0 ok O (σ.hideS ds) a.tmps { w with drawn:=w.drawn+1 } M:=by
    refine Rep.world (w:=w) ?_ rfl rfl rfl rfl
    refine R.fewer (sl:=σ.sl.filter (fun x=>!(ds.any (Nat.beq x.1)))) fun s v h=>?_
    rw [zbz (fun n=>!(ds.any (Nat.beq n)))] at h
    split at h
    ·exact h
    ·cases h
   rw [g2] at t2
   refine Code.wp_mono (Q:=fun e a w=>(∀ c,e≠.panic c)∧Q e a w) (fun e a w h=>h.2) ?_
   refine wp_region_any hmix ?_
   have hD0:Done (σ.hideS ds) all outs (·∈([]:List Nat)) (σ.hideS ds) :=
    ⟨fun _ _ h=>h,fun j o x d hj=>absurd hj (by simp),fun _ _ h=>h,fun j x i r hj=>absurd hj (by simp),fun _ _ h=>h,fun j x i r hj=>absurd hj (by simp),fun _ _ h=>.inl h,fun _ _ h=>.inl h⟩
   refine zx1 T EQ S K F t2 hZ hT hB (fun _ _ _ hc σ a w M h1 h2 h3 h4=>⟨fun c hh=>(nomatch hh),hQ _ _ _ hc σ a w M h1 h2 h3 h4⟩) (fun c a w h=>h.1 c rfl) g4 ((z5a E all (z15 all [])).2.filter fun t=>Nat.blt t (z5a E all (z15 all [])).1) [] all.toArray.size (Array.replicate all.toArray.size false) (σ.hideS ds) a _ M (List.Pairwise.sublist List.filter_sublist hznd) (fun t _=>by simp) List.nodup_nil (fun t ht=>⟨(List.mem_filter.1 ht).1,Nat.le_of_ble_eq_true (List.mem_filter.1 ht).2⟩) (fun t ht=>(nomatch ht)) (fun t ht htm=>.inr (List.mem_filter.2 ⟨ht,Nat.ble_eq_true_of_le htm⟩)) (fun j o hj=>(nomatch hj)) (by simp) (fun t=>by
    simp only [Array.getD_eq_getD_getElem?,Array.getElem?_replicate]
    split <;> simp) (by simp) hD0 R1 hn hd
 ·cases h
end

theorem zc0:∀ (l:List Nat) (i n:Nat),i∈l→∃ k,zdz i l n=n+k∧l[k]?=some i
 | [],i,n,h=>by cases h
 | j::l,i,n,h=>by
  simp only [zdz,z5d]
  by_cases hij:i=j
  ·subst hij; exact ⟨0,by simp,rfl⟩
  ·simp only [hij,decide_false,cond_false]
   obtain ⟨k,h1,h2⟩:=zc0 l i (n+1) ((List.mem_cons.1 h).resolve_left hij)
   exact ⟨k+1,by rw [h1]; omega,h2⟩
theorem zes:∀ (l acc:List Nat) (i:Nat),i∈l∨i∈acc→i∈z58 l acc
 | [],acc,i,h=>by simp [z58]; simpa using h
 | j::l,acc,i,h=>by
  simp only [z58]
  cases hb:acc.any (Nat.beq j)
  ·simp only [cond_false]
   refine zes l _ i ?_
   rcases h with h | h
   ·rcases List.mem_cons.1 h with rfl | h
    ·exact .inr (by simp)
    ·exact .inl h
   ·exact .inr (by simp [h])
  ·simp only [cond_true]
   refine zes l _ i ?_
   rcases h with h | h
   ·rcases List.mem_cons.1 h with rfl | h
    ·obtain ⟨x,hx,hb⟩:=List.any_eq_true.1 hb
     rw [Nat.eq_of_beq_eq_true hb]; exact .inr hx
    ·exact .inl h
   ·exact .inr h
theorem z1cs {ids:List Nat} (hl:ids.length<1000) {i j:Nat} (hi:i∈ids) (hj:j∈ids) (h:z4m ids i=z4m ids j):i=j:=by
 have key:∀ i,i∈ids→i<PIN→z4m ids i<PIN∧∃ k,z4m ids i=NB+k∧ids[k]?=some i:=by
  intro i hi hp
  obtain ⟨k,h1,h2⟩:=zc0 ids i 0 hi
  have hb:Nat.blt i PIN=true:=Nat.ble_eq_true_of_le hp
  have e:z4m ids i=NB+k:=by simp only [z4m,hb,cond_true,h1,Nat.zero_add]
  have hk:=(List.getElem?_eq_some_iff.1 h2).1
  refine ⟨?_,k,e,h2⟩
  rw [e]; simp only [NB,PIN]; omega
 have big:∀ i,¬ i<PIN→z4m ids i=i:=by
  intro i hp
  have hb:Nat.blt i PIN=false:=by
   cases hq:Nat.blt i PIN with
   | false=>rfl
   | true=>exact absurd (Nat.le_of_ble_eq_true hq) hp
  simp only [z4m,hb,cond_false]
 by_cases h1:i<PIN <;> by_cases h2:j<PIN
 ·obtain ⟨_,k,e1,e2⟩:=key i hi h1
  obtain ⟨_,k',e3,e4⟩:=key j hj h2
  have:k=k':=by omega
  subst this
  rw [e2] at e4
  exact Option.some.inj e4
 ·have:=(key i hi h1).1
  rw [h,big j h2] at this; omega
 ·have:=(key j hj h2).1
  rw [← h,big i h1] at this; omega
 ·rw [big i h1,big j h2] at h; exact h
theorem z1ct {ids:List Nat} (hl:ids.length<1000) {i:Nat} (hi:i∈ids) (h:PIN≤z4m ids i):z4m ids i=i:=by
 by_cases h1:i<PIN
 ·exfalso
  obtain ⟨k,h2,h3⟩:=zc0 ids i 0 hi
  have hb:Nat.blt i PIN=true:=Nat.ble_eq_true_of_le h1
  have e:z4m ids i=NB+k:=by simp only [z4m,hb,cond_true,h2,Nat.zero_add]
  have hk:=(List.getElem?_eq_some_iff.1 h3).1
  rw [e] at h
  simp only [NB,PIN] at h
  omega
 ·have hb:Nat.blt i PIN=false:=by
   cases hq:Nat.blt i PIN with
   | false=>rfl
   | true=>exact absurd (Nat.le_of_ble_eq_true hq) h1
  simp only [z4m,hb,cond_false]

theorem zet (f:Nat→Nat) (s:SV):(s.ren f).roots=s.roots.map f∧(s.ren f).boxes=s.boxes∧(s.ren f).isSt=s.isSt∧(s.ren f).count=s.count∧(s.ren f).isCh=s.isCh:=by
 induction s with
 | st s ih=>exact ⟨ih.1,ih.2.1,rfl,rfl,rfl⟩
 | pr a b iha ihb=>exact ⟨by simp [SV.ren,SV.roots,iha.1,ihb.1],by simp [SV.ren,SV.boxes,iha.2.1,ihb.2.1],rfl,rfl,rfl⟩
 | clo g s ih=>exact ⟨ih.1,ih.2.1,rfl,rfl,rfl⟩
 | tup s ih=>exact ⟨ih.1,ih.2.1,rfl,rfl,rfl⟩
 | cns a b iha ihb=>exact ⟨by simp [SV.ren,SV.roots,iha.1,ihb.1],by simp [SV.ren,SV.boxes,iha.2.1,ihb.2.1],rfl,by simp [SV.ren,SV.count,ihb.2.2.2.1],rfl⟩
 | val t x=>cases t <;> exact ⟨rfl,rfl,rfl,rfl,rfl⟩
 | _=>exact ⟨rfl,rfl,rfl,rfl,rfl⟩

section
variable {P : Program} {E : Env} {w0 : World} {ok O : Nat → Prop} {σ σ' : St} {tm : Array Value} {w w' : World} {M M' : Map} {a : Act}

structure Renm (M M':Map) (f:Nat→Nat) (ids:List Nat):Prop where
 loc:∀ i∈ids,M'.loc (f i)=M.loc i
 blk:M'.blk=M.blk
 bn:M'.bn=M.bn
 bw:M'.bw=M.bw
theorem z4a {f:Nat→Nat} {ids:List Nat} (H:Renm M M' f ids):∀ {s:SV} {cs:List Value},(∀ i∈s.roots,i∈ids)→zc w0 ok M s cs→zc w0 ok M' (s.ren f) cs
 | .val t x,cs,h,hs=>by cases t <;> exact hs
 | .ref i p,cs,h,hs=>by
  have e:=H.loc i (h i (by simp [SV.roots]))
  simp only [SV.ren,zc] at hs ⊢
  rw [e]; exact hs
 | .vw i lo n,cs,h,hs=>by
  have e:=H.loc i (h i (by simp [SV.roots]))
  simp only [SV.ren,zc] at hs ⊢
  rw [e]; exact hs
 | .ls i,cs,h,hs=>by simp only [SV.ren,zc,H.blk,H.bn] at hs ⊢; exact hs
 | .st s,cs,h,hs=>z4a H (s:=s) h hs
 | .pr a b,cs,h,hs=>by
  obtain ⟨c1,c2,rfl,h1,h2⟩:=hs
  exact ⟨c1,c2,rfl,z4a H (fun i hi=>h i (by simp [SV.roots,hi])) h1,z4a H (fun i hi=>h i (by simp [SV.roots,hi])) h2⟩
 | .bp i p o,cs,h,hs=>by simp only [SV.ren,zc,H.blk] at hs ⊢; exact hs
 | .ep i p n f' o,cs,h,hs=>by
  have e:=H.loc i (h i (by simp [SV.roots]))
  simp only [SV.ren,zc] at hs ⊢
  rw [e]; exact hs
 | .lp i n,cs,h,hs=>by simp only [SV.ren,zc,H.blk,H.bn,H.bw] at hs ⊢; exact hs
 | .clo g c,cs,h,hs=>by
  obtain ⟨caps,rfl,h1⟩:=hs
  exact ⟨caps,rfl,z4a H (s:=c) h h1⟩
 | .no,cs,h,hs=>hs
 | .un,cs,h,hs=>hs
 | .tup _,_,_,h=>h.elim
 | .cns _ _,_,_,h=>h.elim
 | .nl,_,_,h=>h.elim
theorem z1cu {f:Nat→Nat} {ids:List Nat} (H:Renm M M' f ids) {s:SV}:∀ {cs:List Value},(∀ i∈s.roots,i∈ids)→z1m w0 ok M s cs→z1m w0 ok M' (s.ren f) cs:=by
 induction s with
 | cns a b iha ihb =>
  intro cs h hs
  obtain ⟨c1,c2,rfl,h1,h2⟩:=hs
  exact ⟨c1,c2,rfl,z4a H (fun i hi=>h i (by simp [SV.roots,hi])) h1,ihb (fun i hi=>h i (by simp [SV.roots,hi])) h2⟩
 | nl=>intro cs h hs; exact hs
 | val t x=>intro cs h hs; exact z13 (z4a H h hs)
 | ref i p=>intro cs h hs; exact z13 (z4a H h hs)
 | vw i lo n=>intro cs h hs; exact z13 (z4a H h hs)
 | ls i=>intro cs h hs; exact z13 (z4a H h hs)
 | st s _=>intro cs h hs; exact z13 (z4a H (s:=.st s) h hs)
 | pr a b _ _=>intro cs h hs; exact z13 (z4a H (s:=.pr a b) h hs)
 | bp i p o=>intro cs h hs; exact z13 (z4a H h hs)
 | ep i p n f o=>intro cs h hs; exact z13 (z4a H h hs)
 | lp i n=>intro cs h hs; exact z13 (z4a H h hs)
 | clo g s _=>intro cs h hs; exact z13 (z4a H (s:=.clo g s) h hs)
 | no=>intro cs h hs; exact hs
 | un=>intro cs h hs; exact hs
 | tup s _=>intro cs h hs; exact hs.elim
theorem z1cv {f:Nat→Nat} {ids:List Nat} (H:Renm M M' f ids) {s:SV}:∀ {vs:List Value},(∀ i∈s.roots,i∈ids)→z2m w0 ok M s vs→z2m w0 ok M' (s.ren f) vs:=by
 induction s with
 | cns a b iha ihb =>
  intro vs h hs
  obtain ⟨v,vs',rfl,⟨cs,h1,h3⟩,h2⟩:=hs
  exact ⟨v,vs',rfl,⟨cs,z4a H (fun i hi=>h i (by simp [SV.roots,hi])) h1,by rw [(zet f a).2.2.1]; exact h3⟩,ihb (fun i hi=>h i (by simp [SV.roots,hi])) h2⟩
 | nl=>intro vs h hs; exact hs
 | _=>intro vs h hs; exact hs.elim
theorem z1cw {f:Nat→Nat} {ids:List Nat} (H:Renm M M' f ids) {s:SV} {v:Value} (h:∀ i∈s.roots,i∈ids) (hs:zq w0 ok M s v):zq w0 ok M' (s.ren f) v:=by
 rcases z3f hs with rfl | ⟨c,vs,rfl,rfl,h1⟩ | ⟨cs,h1,h2⟩
 ·trivial
 ·exact ⟨vs,rfl,z1cv H h h1⟩
 ·exact z1v (z4a H h h1) (by unfold z2z; rw [(zet f s).2.2.1]; exact h2)

theorem zl6 {rows:List (Nat×Row)} {f:Nat→Nat}:∀ {l:List Nat} {j:Nat} {r:Row},lk (z6x rows f l) j=some r→∃ i∈l,f i=j∧lk rows i=some r
 | [],j,r,h=>by cases h
 | i::l,j,r,h=>by
  simp only [z6x] at h
  split at h
  ·rename_i r' hr
   rw [zr] at h
   split at h
   ·rename_i e; cases h; exact ⟨i,by simp,e,hr⟩
   ·obtain ⟨i',h1,h2⟩:=zl6 h; exact ⟨i',by simp [h1],h2⟩
  ·obtain ⟨i',h1,h2⟩:=zl6 h; exact ⟨i',by simp [h1],h2⟩
theorem zx2 {rows:List (Nat×Row)} {f:Nat→Nat}:∀ {l:List Nat} {i:Nat} {r:Row},i∈l→lk rows i=some r→∃ r',lk (z6x rows f l) (f i)=some r'
 | [],i,r,h,_=>by cases h
 | j::l,i,r,h,hr=>by
  simp only [z6x]
  by_cases hij:i=j
  ·subst hij; rw [hr]; exact ⟨r,z62 _ _ _⟩
  ·obtain ⟨r',hr'⟩:=zx2 (f:=f) ((List.mem_cons.1 h).resolve_left hij) hr
   split
   ·rw [zr]; split; exact ⟨_,rfl⟩; exact ⟨r',hr'⟩
   ·exact ⟨r',hr'⟩

theorem Rep.ren (R:Rep E w0 ok O σ tm w M) {f:Nat→Nat} {ids:List Nat} (hS:∀ s v,lk σ.sl s=some v→∀ i∈v.roots,i∈ids) (hB:∀ j b,lk σ.bx j=some b→∀ i∈b.c.roots,i∈ids) (hinj:∀ i j,i∈ids→j∈ids→f i=f j→i=j) (hpin:∀ i∈ids,PIN≤f i→f i=i) :
  ∃ M',Rep E w0 ok O ⟨z14 (SV.ren f) σ.sl,z6x σ.rows f ids,z14 (fun b=>⟨b.ty,b.c.ren f⟩) σ.bx⟩ tm w M':=by
 let g:Nat→Loc:=fun j=>match ids.find? (fun i=>Nat.beq (f i) j) with | some i=>M.loc i | none=>M.loc j
 have hg:∀ i∈ids,g (f i)=M.loc i:=by
  intro i hi
  show (match ids.find? (fun k=>Nat.beq (f k) (f i)) with | some i=>M.loc i | none=>M.loc (f i))=M.loc i
  cases hq:ids.find? (fun k=>Nat.beq (f k) (f i)) with
  | none=>have:=List.find?_eq_none.1 hq i hi; simp at this
  | some k =>
   have h1:=List.mem_of_find?_eq_some hq
   have h2:f k=f i:=by have:=List.find?_some hq; exact Nat.eq_of_beq_eq_true this
   rw [hinj k i h1 hi h2]
 have H:Renm M { M with loc:=g } f ids:=⟨hg,rfl,rfl,rfl⟩
 have hrow:∀ j,(∃ r,lk (z6x σ.rows f ids) j=some r)→∃ i∈ids,f i=j∧∃ r,lk σ.rows i=some r:=fun j ⟨r,hr⟩=>by
  obtain ⟨i,h1,h2,h3⟩:=zl6 hr; exact ⟨i,h1,h2,r,h3⟩
 have hbx:∀ j b,lk (z14 (fun b:Bx=>(⟨b.ty,b.c.ren f⟩:Bx)) σ.bx) j=some b→∃ u,lk σ.bx j=some u∧b=⟨u.ty,u.c.ren f⟩:=fun j b h=>by
  rw [z2f] at h
  obtain ⟨u,h1,rfl⟩:=Option.map_eq_some_iff.1 h
  exact ⟨u,h1,rfl⟩
 have hbx1:∀ j,(∃ b,lk (z14 (fun b:Bx=>(⟨b.ty,b.c.ren f⟩:Bx)) σ.bx) j=some b)→∃ b,lk σ.bx j=some b:=fun j ⟨b,h⟩=>by
  obtain ⟨u,h1,_⟩:=hbx j b h; exact ⟨u,h1⟩
 have live:∀ u,Live σ u→(∀ i∈u.roots,i∈ids)→Live ⟨z14 (SV.ren f) σ.sl,z6x σ.rows f ids,z14 (fun b=>⟨b.ty,b.c.ren f⟩) σ.bx⟩ (u.ren f):=fun u hu hin=>⟨fun j hj=>by
   rw [(zet f u).1] at hj
   obtain ⟨i,hi,rfl⟩:=List.mem_map.1 hj
   obtain ⟨r,hr⟩:=hu.rows i hi
   exact zx2 (hin i hi) hr,fun j hj=>by
   rw [(zet f u).2.1] at hj
   obtain ⟨b,hb⟩:=hu.boxes j hj
   exact ⟨_,by show lk (z14 _ σ.bx) j=_; rw [z2f,hb]; rfl⟩⟩
 refine ⟨{ M with loc:=g },?_⟩
 constructor
 ·intro s v h
  have h:lk (z14 (SV.ren f) σ.sl) s=some v:=h
  rw [z2f] at h
  obtain ⟨u,h1,rfl⟩:=Option.map_eq_some_iff.1 h
  obtain ⟨z,h2,h3⟩:=R.slots s u h1
  exact ⟨z,h2,z1cw H (hS s u h1) h3⟩
 ·intro j r h
  obtain ⟨i,h1,rfl,h3⟩:=zl6 h
  obtain ⟨l,e1,e2⟩:=R.rows i r h3
  exact ⟨l,(hg i h1).trans e1,e2⟩
 ·intro j b h
  obtain ⟨u,h1,rfl⟩:=hbx j b h
  obtain ⟨cs,h2,h3,h4⟩:=R.boxes j u h1
  exact ⟨cs,z1cu H (hB j u h1) h2,h3,fun hc=>by
   rw [(zet f u.c).2.2.2.2] at hc
   rw [(zet f u.c).2.2.2.1]
   exact h4 hc⟩
 ·intro i j hij hi hj k hk
  obtain ⟨i',i1,rfl,i3⟩:=hrow i hi
  obtain ⟨j',j1,rfl,j3⟩:=hrow j hj
  show k∉z7 (g (f j')).1 (g (f j')).2
  have hk:k∈z7 (g (f i')).1 (g (f i')).2:=hk
  rw [hg i' i1] at hk
  rw [hg j' j1]
  exact R.rr i' j' (fun e=>hij (by rw [e])) i3 j3 k hk
 ·exact fun i j hij hi hj=>R.bb i j hij (hbx1 i hi) (hbx1 j hj)
 ·intro i j hi hj
  obtain ⟨i',i1,rfl,i3⟩:=hrow i hi
  show M.blk j∉z7 (g (f i')).1 (g (f i')).2
  rw [hg i' i1]
  exact R.rb i' j i3 (hbx1 j hj)
 ·intro i hi k hk
  obtain ⟨i',i1,rfl,i3⟩:=hrow i hi
  have hk:k∈z7 (g (f i')).1 (g (f i')).2:=hk
  rw [hg i' i1] at hk
  exact R.ownR i' i3 k hk
 ·exact fun i hi=>R.ownB i (hbx1 i hi)
 ·exact R.okB
 ·intro s v h
  have h:lk (z14 (SV.ren f) σ.sl) s=some v:=h
  rw [z2f] at h
  obtain ⟨u,h1,rfl⟩:=Option.map_eq_some_iff.1 h
  exact live u (R.liveS s u h1) (hS s u h1)
 ·intro j b h
  obtain ⟨u,h1,rfl⟩:=hbx j b h
  exact live u.c (R.liveB j u h1) (hB j u h1)
 ·exact R.kept
 ·intro i hi hr
  obtain ⟨i',i1,rfl,i3⟩:=hrow i hr
  show za (g (f i')).1 (g (f i')).2=_
  rw [hg i' i1]
  have e:=hpin i' i1 hi
  rw [e] at hi ⊢
  exact R.pin i' hi i3
 ·exact fun i hi hq=>R.pinB i hi (hbx1 i hq)

theorem zeu {sl:List (Nat×SV)}:∀ {L:List Nat} {s:Nat} {v:SV},lk (z6g sl L) s=some v→lk sl s=some v
 | [],s,v,h=>by cases h
 | i::L,s,v,h=>by
  simp only [z6g] at h
  split at h
  ·rename_i u hu
   rw [zr] at h
   split at h
   ·rename_i e; subst e; cases h; exact hu
   ·exact zeu h
  ·exact zeu h
theorem zev {bx:List (Nat×Bx)}:∀ {L:List Nat} {s:Nat} {v:Bx},lk (z5k bx L) s=some v→s∈L∧lk bx s=some v
 | [],s,v,h=>by cases h
 | i::L,s,v,h=>by
  simp only [z5k] at h
  split at h
  ·rename_i u hu
   rw [zr] at h
   split at h
   ·rename_i e; subst e; cases h; exact ⟨by simp,hu⟩
   ·obtain ⟨h1,h2⟩:=zev h; exact ⟨by simp [h1],h2⟩
  ·obtain ⟨h1,h2⟩:=zev h; exact ⟨by simp [h1],h2⟩
theorem zrr {bx:List (Nat×Bx)}:∀ {L:List Nat} {s:Nat} {v:Bx},s∈L→lk bx s=some v→∃ v',lk (z5k bx L) s=some v'
 | [],s,v,h,_=>by cases h
 | i::L,s,v,h,hv=>by
  simp only [z5k]
  by_cases e:s=i
  ·subst e; rw [hv]; exact ⟨v,z62 _ _ _⟩
  ·obtain ⟨v',h'⟩:=zrr ((List.mem_cons.1 h).resolve_left e) hv
   split
   ·rw [zr]; split; exact ⟨_,rfl⟩; exact ⟨v',h'⟩
   ·exact ⟨v',h'⟩

theorem zx3 (l:List Nat):∀ {σ:St} {j:Nat},(∃ b,lk (l.foldl St.dropB σ).bx j=some b)→j∉l∧∃ b,lk σ.bx j=some b:=by
 induction l with
 | nil=>intro σ j h; exact ⟨by simp,h⟩
 | cons i l ih =>
  intro σ j h
  obtain ⟨h1,b,h2⟩:=ih (σ:=σ.dropB i) h
  refine ⟨?_,(Sub.dropB σ i).bx j b h2⟩
  simp only [List.mem_cons,not_or]
  exact ⟨zkq ⟨b,h2⟩,h1⟩

theorem z1cx (R:Rep E w0 ok O σ tm w M) (L B:List Nat):∃ M',Rep E w0 ok O (σ.norm L B) tm w M':=by
 have R1:=R.dropsB (σ.bx.filterMap (fun x=>bif B.any (Nat.beq x.1) then none else some x.1))
 have hin:∀ j,(∃ b,lk ((σ.bx.filterMap (fun x=>bif B.any (Nat.beq x.1) then none else some x.1)).foldl St.dropB σ).bx j=some b)→j∈B:=by
  intro j hj
  obtain ⟨h1,b,h2⟩:=zx3 _ hj
  refine Classical.byContradiction fun hn=>h1 (List.mem_filterMap.2 ⟨(j,b),z1b h2,?_⟩)
  have:B.any (Nat.beq j)=false:=by
   cases hq:B.any (Nat.beq j) with
   | false=>rfl
   | true =>
    obtain ⟨x,hx,hb⟩:=List.any_eq_true.1 hq
    exact absurd (Nat.eq_of_beq_eq_true hb▸hx) hn
  simp [this]
 unfold St.norm
 simp only []
 generalize (σ.bx.filterMap (fun x=>bif B.any (Nat.beq x.1) then none else some x.1)).foldl St.dropB σ=σ1 at R1 hin ⊢
 have R2:Rep E w0 ok O ⟨z6g σ1.sl L,σ1.rows,z5k σ1.bx B⟩ tm w M:=by
  have live:∀ u,Live σ1 u→Live ⟨z6g σ1.sl L,σ1.rows,z5k σ1.bx B⟩ u:=fun u hu=>⟨hu.rows,fun i hi=>by
   obtain ⟨b,hb⟩:=hu.boxes i hi
   exact zrr (hin i ⟨b,hb⟩) hb⟩
  exact R1.weaken (fun s v h=>⟨⟨v,zeu h,.same v⟩,live v (R1.liveS s v (zeu h))⟩) (fun i r h=>h) (fun i b h=>⟨⟨b,(zev h).2,rfl,.same _⟩,live b.c (R1.liveB i b (zev h).2)⟩)
 generalize hids:z58 (σ1.rows.filterMap (fun x=>bif Nat.blt x.1 PIN then none else some x.1)++((z6g σ1.sl L).flatMap (fun x=>x.2.roots)++(z5k σ1.bx B).flatMap (fun x=>x.2.c.roots))) []=ids
 cases hl:Nat.blt ids.length 1000
 ·exact ⟨M,R.weaken (fun s v h=>by cases h) (fun i r h=>by cases h) (fun i b h=>by cases h)⟩
 ·have hlen:ids.length<1000:=Nat.le_of_ble_eq_true hl
  exact R2.ren (fun s v h i hi=>by
   rw [← hids]
   exact zes _ _ _ (.inl (List.mem_append.2 (.inr (List.mem_append.2 (.inl (List.mem_flatMap.2 ⟨(s,v),z1b h,hi⟩))))))) (fun j b h i hi=>by
   rw [← hids]
   exact zes _ _ _ (.inl (List.mem_append.2 (.inr (List.mem_append.2 (.inr (List.mem_flatMap.2 ⟨(j,b),z1b h,hi⟩))))))) (fun i j hi hj h=>z1cs hlen hi hj h) (fun i hi h=>z1ct hlen hi h)
theorem z1cy {ids:List Nat} (hl:ids.length<1000) {i j:Nat} (hi:i∈ids) (hj:j∈ids) (h:z8r ids i=z8r ids j):i=j:=by
 obtain ⟨k,h1,h2⟩:=zc0 ids i 0 hi
 obtain ⟨l,h3,h4⟩:=zc0 ids j 0 hj
 unfold z8r at h
 have:k=l:=by omega
 subst this
 rw [h2] at h4
 exact Option.some.inj h4
theorem z1cz {ids:List Nat} (hl:ids.length<1000) {i:Nat} (hi:i∈ids) (h:PIN≤z8r ids i):z8r ids i=i:=by
 exfalso
 obtain ⟨k,h2,h3⟩:=zc0 ids i 0 hi
 have hk:=(List.getElem?_eq_some_iff.1 h3).1
 unfold z8r at h
 simp only [NB,PIN] at h
 omega
theorem z1d0 (R:Rep E w0 ok O σ tm w M) (L B:List Nat):∃ M',Rep E w0 ok O (σ.normA L B) tm w M':=by
 have R1:=R.dropsB (σ.bx.filterMap (fun x=>bif B.any (Nat.beq x.1) then none else some x.1))
 have hin:∀ j,(∃ b,lk ((σ.bx.filterMap (fun x=>bif B.any (Nat.beq x.1) then none else some x.1)).foldl St.dropB σ).bx j=some b)→j∈B:=by
  intro j hj
  obtain ⟨h1,b,h2⟩:=zx3 _ hj
  refine Classical.byContradiction fun hn=>h1 (List.mem_filterMap.2 ⟨(j,b),z1b h2,?_⟩)
  have:B.any (Nat.beq j)=false:=by
   cases hq:B.any (Nat.beq j) with
   | false=>rfl
   | true =>
    obtain ⟨x,hx,hb⟩:=List.any_eq_true.1 hq
    exact absurd (Nat.eq_of_beq_eq_true hb▸hx) hn
  simp [this]
 unfold St.normA
 simp only []
 generalize (σ.bx.filterMap (fun x=>bif B.any (Nat.beq x.1) then none else some x.1)).foldl St.dropB σ=σ1 at R1 hin ⊢
 have R2:Rep E w0 ok O ⟨z6g σ1.sl L,σ1.rows,z5k σ1.bx B⟩ tm w M:=by
  have live:∀ u,Live σ1 u→Live ⟨z6g σ1.sl L,σ1.rows,z5k σ1.bx B⟩ u:=fun u hu=>⟨hu.rows,fun i hi=>by
   obtain ⟨b,hb⟩:=hu.boxes i hi
   exact zrr (hin i ⟨b,hb⟩) hb⟩
  exact R1.weaken (fun s v h=>⟨⟨v,zeu h,.same v⟩,live v (R1.liveS s v (zeu h))⟩) (fun i r h=>h) (fun i b h=>⟨⟨b,(zev h).2,rfl,.same _⟩,live b.c (R1.liveB i b (zev h).2)⟩)
 generalize hids:z58 ((z6g σ1.sl L).flatMap (fun x=>x.2.roots)++(z5k σ1.bx B).flatMap (fun x=>x.2.c.roots)) []=ids
 cases hl:Nat.blt ids.length 1000
 ·exact ⟨M,R.weaken (fun s v h=>by cases h) (fun i r h=>by cases h) (fun i b h=>by cases h)⟩
 ·have hlen:ids.length<1000:=Nat.le_of_ble_eq_true hl
  exact R2.ren (fun s v h i hi=>by
   rw [← hids]
   exact zes _ _ _ (.inl (List.mem_append.2 (.inl (List.mem_flatMap.2 ⟨(s,v),z1b h,hi⟩))))) (fun j b h i hi=>by
   rw [← hids]
   exact zes _ _ _ (.inl (List.mem_append.2 (.inr (List.mem_flatMap.2 ⟨(j,b),z1b h,hi⟩))))) (fun i j hi hj h=>z1cy hlen hi hj h) (fun i hi h=>z1cz hlen hi h)
end

section
variable {R0 : Type} {res : R0}

theorem zl7:∀ {p:List PK} {q:List Step} {k:PT p→Option R0},getP p q k=some res→∃ x,za1 p x=q∧k x=some res
 | [],[],k,h=>⟨(),rfl,h⟩
 | .ix::p,.ix n::q,k,h=>by
  obtain ⟨x,h1,h2⟩:=zl7 (p:=p) (k:=fun x=>k (n,x)) h
  exact ⟨(n,x),by simp [za1,h1],h2⟩
 | .f b::p,.f c::q,k,h=>by
  simp only [getP] at h
  cases hb:(b==c) <;> rw [hb] at h
  ·cases h
  ·obtain ⟨x,h1,h2⟩:=zl7 (p:=p) (k:=k) h
   exact ⟨x,by simp only [za1,h1,eq_of_beq hb],h2⟩
 | .u::p,.u::q,k,h=>by
  obtain ⟨x,h1,h2⟩:=zl7 (p:=p) (k:=k) h
  exact ⟨x,by simp [za1,h1],h2⟩
 | [],_::_,k,h=>by cases h
 | .ix::p,[],k,h=>by cases h
 | .ix::p,.f _::_,k,h=>by cases h
 | .ix::p,.u::_,k,h=>by cases h
 | .f b::p,[],k,h=>by cases h
 | .f b::p,.ix _::_,k,h=>by cases h
 | .f b::p,.u::_,k,h=>by cases h
 | .u::p,[],k,h=>by cases h
 | .u::p,.ix _::_,k,h=>by cases h
 | .u::p,.f _::_,k,h=>by cases h
theorem zx4:∀ {l m:List Bool},zhh l m=true→l=m
 | [],[],_=>rfl
 | a::l,b::m,h=>by
  simp only [zhh,Bool.and_eq_true] at h
  rw [eq_of_beq h.1,zx4 h.2]
 | [],_::_,h=>by cases h
 | _::_,[],h=>by cases h
theorem zew {u t:Ty} {x:u.T} {k:t.T→Option R0} (h:zp u t x k=some res):∃ e:u=t,k (e▸x)=some res:=by
 unfold zp at h
 split at h
 ·rename_i e; exact ⟨e,h⟩
 ·cases h
theorem z94:∀ {s:SK} {v:SV} {k:s.T→Option R0},s.get v k=some res→∃ x,s.fill x=v∧k x=some res
 | .val t,v,k,h=>by
  simp only [SK.get] at h
  split at h
  ·obtain ⟨e,h⟩:=zew h; subst e; exact ⟨_,rfl,h⟩
  ·cases h
 | .ref i p,v,k,h=>by
  simp only [SK.get] at h
  split at h
  ·rename_i j q
   cases hb:Nat.beq i j <;> rw [hb] at h
   ·cases h
   ·obtain ⟨x,h1,h2⟩:=zl7 h
    exact ⟨x,by simp only [SK.fill,h1,Nat.eq_of_beq_eq_true hb],h2⟩
  ·cases h
 | .vw i,v,k,h=>by
  simp only [SK.get] at h
  split at h
  ·rename_i j a b
   cases hb:Nat.beq i j <;> rw [hb] at h
   ·cases h
   ·exact ⟨(a,b),by simp only [SK.fill,Nat.eq_of_beq_eq_true hb],h⟩
  ·cases h
 | .ls i,v,k,h=>by
  simp only [SK.get] at h
  split at h
  ·rename_i j
   cases hb:Nat.beq i j <;> rw [hb] at h
   ·cases h
   ·exact ⟨(),by simp only [SK.fill,Nat.eq_of_beq_eq_true hb],h⟩
  ·cases h
 | .st s,v,k,h=>by
  simp only [SK.get] at h
  split at h
  ·obtain ⟨x,h1,h2⟩:=z94 (s:=s) (k:=k) h
   exact ⟨x,by simp only [SK.fill,h1],h2⟩
  ·cases h
 | .pr a b,v,k,h=>by
  simp only [SK.get] at h
  split at h
  ·obtain ⟨x,h1,h⟩:=z94 (s:=a) h
   obtain ⟨y,h2,h⟩:=z94 (s:=b) h
   exact ⟨(x,y),by simp only [SK.fill,h1,h2],h⟩
  ·cases h
 | .bp i p o,v,k,h=>by
  simp only [SK.get] at h
  split at h
  ·rename_i j q c
   cases hb:(Nat.beq i j&&(zhh p q&&Nat.beq o c)) <;> rw [hb] at h
   ·cases h
   ·simp only [Bool.and_eq_true] at hb
    exact ⟨(),by simp only [SK.fill,Nat.eq_of_beq_eq_true hb.1,zx4 hb.2.1,Nat.eq_of_beq_eq_true hb.2.2],h⟩
  ·cases h
 | .clo g s,v,k,h=>by
  simp only [SK.get] at h
  split at h
  ·rename_i g' w
   cases hb:Nat.beq g g' <;> rw [hb] at h
   ·cases h
   ·obtain ⟨x,h1,h2⟩:=z94 (s:=s) (k:=k) h
    exact ⟨x,by simp only [SK.fill,h1,Nat.eq_of_beq_eq_true hb],h2⟩
  ·cases h
 | .tup s,v,k,h=>by
  simp only [SK.get] at h
  split at h
  ·obtain ⟨x,h1,h2⟩:=z94 (s:=s) (k:=k) h
   exact ⟨x,by simp only [SK.fill,h1],h2⟩
  ·cases h
 | .cns a b,v,k,h=>by
  simp only [SK.get] at h
  split at h
  ·obtain ⟨x,h1,h⟩:=z94 (s:=a) h
   obtain ⟨y,h2,h⟩:=z94 (s:=b) h
   exact ⟨(x,y),by simp only [SK.fill,h1,h2],h⟩
  ·cases h
 | .nl,v,k,h=>by
  simp only [SK.get] at h
  split at h
  ·exact ⟨(),rfl,h⟩
  ·cases h
 | .no,v,k,h=>by
  simp only [SK.get] at h
  split at h
  ·exact ⟨(),rfl,h⟩
  ·cases h
 | .un,v,k,h=>by
  simp only [SK.get] at h
  split at h
  ·exact ⟨(),rfl,h⟩
  ·cases h

theorem zl8 {σ:List (Nat×SV)}:∀ {l:List (Nat×SK)} {k:slT l→Option R0},ze1 σ l k=some res→∃ x,k x=some res∧∀ i v,(i,v)∈zhi l x→lk σ i=some v
 | [],k,h=>⟨(),h,by simp [zhi]⟩
 | (i,s)::l,k,h=>by
  simp only [ze1] at h
  split at h
  ·rename_i v hv
   obtain ⟨x,h1,h⟩:=z94 h
   obtain ⟨y,h2,h3⟩:=zl8 h
   refine ⟨(x,y),h2,fun j u hj=>?_⟩
   rcases List.mem_cons.1 hj with e | hj
   ·cases e; rw [hv,h1]
   ·exact h3 j u hj
  ·cases h
theorem zl9 {σ:List (Nat×Row)}:∀ {l:List (Nat×TypeId×Ty×Bool)} {k:zdu l→Option R0},ze2 σ l k=some res→∃ x,k x=some res∧∀ i v,(i,v)∈ze0 l x→lk σ i=some v
 | [],k,h=>⟨(),h,by simp [ze0]⟩
 | (i,e,t,z)::l,k,h=>by
  simp only [ze2] at h
  split at h
  ·rename_i r hr
   cases hb:(Nat.beq r.e e&&(r.z==z)) <;> rw [hb] at h
   ·cases h
   ·simp only [Bool.and_eq_true] at hb
    simp only [cond_true] at h
    obtain ⟨he,h⟩:=zew h
    obtain ⟨y,h2,h3⟩:=zl9 h
    obtain ⟨re,rt,rx,rz⟩:=r
    have e1:re=e:=Nat.eq_of_beq_eq_true hb.1
    have e2:rz=z:=eq_of_beq hb.2
    have e3:rt=t:=by injection he
    subst e1; subst e2; subst e3
    refine ⟨(rx,y),h2,fun j u hj=>?_⟩
    rcases List.mem_cons.1 hj with q | hj
    ·cases q; exact hr
    ·exact h3 j u hj
  ·cases h
theorem zla {σ:List (Nat×Bx)}:∀ {l:List (Nat×TypeId×SK)} {k:bxT l→Option R0},ze3 σ l k=some res→∃ x,k x=some res∧∀ i v,(i,v)∈zbn l x→lk σ i=some v
 | [],k,h=>⟨(),h,by simp [zbn]⟩
 | (i,t,s)::l,k,h=>by
  simp only [ze3] at h
  split at h
  ·rename_i b hb'
   cases hb:Nat.beq b.ty t <;> rw [hb] at h
   ·cases h
   ·simp only [cond_true] at h
    obtain ⟨x,h1,h⟩:=z94 h
    obtain ⟨y,h2,h3⟩:=zla h
    refine ⟨(x,y),h2,fun j u hj=>?_⟩
    rcases List.mem_cons.1 hj with q | hj
    ·cases q
     rw [hb',h1,← Nat.eq_of_beq_eq_true hb]
    ·exact h3 j u hj
  ·cases h

theorem z65:∀ (s:SK) (x:s.T),(s.fill x).roots=s.roots∧(s.fill x).boxes=s.boxes
 | .val t,x=>⟨rfl,rfl⟩
 | .ref i p,x=>⟨rfl,rfl⟩
 | .vw i,x=>⟨rfl,rfl⟩
 | .ls i,x=>⟨rfl,rfl⟩
 | .st s,x=>z65 s x
 | .pr a b,x=>⟨by simp [SK.fill,SV.roots,SK.roots,(z65 a x.1).1,(z65 b x.2).1],by simp [SK.fill,SV.boxes,SK.boxes,(z65 a x.1).2,(z65 b x.2).2]⟩
 | .bp i p o,x=>⟨rfl,rfl⟩
 | .clo g s,x=>z65 s x
 | .tup s,x=>z65 s x
 | .cns a b,x=>⟨by simp [SK.fill,SV.roots,SK.roots,(z65 a x.1).1,(z65 b x.2).1],by simp [SK.fill,SV.boxes,SK.boxes,(z65 a x.1).2,(z65 b x.2).2]⟩
 | .nl,x=>⟨rfl,rfl⟩
 | .no,x=>⟨rfl,rfl⟩
 | .un,x=>⟨rfl,rfl⟩
theorem zx5:∀ {l:List (Nat×TypeId×Ty×Bool)} {x:zdu l} {i:Nat},(l.any fun r=>Nat.beq r.1 i)=true→∃ r,lk (ze0 l x) i=some r
 | (j,e,t,z)::l,x,i,h=>by
  simp only [List.any_cons,Bool.or_eq_true] at h
  simp only [ze0]
  rw [zr]
  split
  ·exact ⟨_,rfl⟩
  ·rename_i hne
   rcases h with h | h
   ·exact absurd (Nat.eq_of_beq_eq_true h) hne
   ·exact zx5 h
theorem zx6:∀ {l:List (Nat×TypeId×SK)} {x:bxT l} {i:Nat},(l.any fun r=>Nat.beq r.1 i)=true→∃ r,lk (zbn l x) i=some r
 | (j,e,t)::l,x,i,h=>by
  simp only [List.any_cons,Bool.or_eq_true] at h
  simp only [zbn]
  rw [zr]
  split
  ·exact ⟨_,rfl⟩
  ·rename_i hne
   rcases h with h | h
   ·exact absurd (Nat.eq_of_beq_eq_true h) hne
   ·exact zx6 h
theorem zlb:∀ {l:List (Nat×SK)} {x:slT l} {i:Nat} {v:SV},(i,v)∈zhi l x→∃ s y,(i,s)∈l∧v=SK.fill s y
 | (j,s)::l,x,i,v,h=>by
  rcases List.mem_cons.1 h with e | h
  ·cases e; exact ⟨s,x.1,by simp,rfl⟩
  ·obtain ⟨s',y,h1,h2⟩:=zlb h; exact ⟨s',y,by simp [h1],h2⟩
theorem zlc:∀ {l:List (Nat×TypeId×SK)} {x:bxT l} {i:Nat} {b:Bx},(i,b)∈zbn l x→∃ t s y,(i,t,s)∈l∧b=⟨t,SK.fill s y⟩
 | (j,t,s)::l,x,i,v,h=>by
  rcases List.mem_cons.1 h with e | h
  ·cases e; exact ⟨t,s,x.1,by simp,rfl⟩
  ·obtain ⟨t',s',y,h1,h2⟩:=zlc h; exact ⟨t',s',y,by simp [h1],h2⟩
end

section
variable {P : Program} {E : Env} {w0 : World} {ok O : Nat → Prop} {σ σ' : St} {tm : Array Value} {w w' : World} {M M' : Map} {a : Act} {R0 : Type} {res : R0}

theorem zex {h:Head} {x:h.T} {s:SK} {y:s.T} (hk:s.okIn h=true):Live (h.fill x) (s.fill y):=by
 simp only [SK.okIn,Bool.and_eq_true,List.all_eq_true] at hk
 exact ⟨fun i hi=>by rw [(z65 s y).1] at hi; exact zx5 (hk.1 i hi),fun i hi=>by rw [(z65 s y).2] at hi; exact zx6 (hk.2 i hi)⟩

theorem z1d1 (R:Rep E w0 ok O σ tm w M) {h:Head} (hk:h.ok=true) {k:h.T→Option R0} (hg:h.getP σ k=some res):∃ x M',k x=some res∧Rep E w0 ok O (h.fill x) tm w M':=by
 unfold Head.getP at hg
 simp only [] at hg
 obtain ⟨M',R'⟩:=z1cx R (h.sl.map (·.1)) (h.bx.map (·.1))
 generalize σ.norm (h.sl.map (·.1)) (h.bx.map (·.1))=σ1 at hg R'
 obtain ⟨x,hg,hx⟩:=zl8 hg
 obtain ⟨y,hg,hy⟩:=zl9 hg
 obtain ⟨z,hg,hz⟩:=zla hg
 simp only [Head.ok,Bool.and_eq_true,List.all_eq_true] at hk
 refine ⟨(x,y,z),M',hg,R'.le ⟨fun s v hv=>hx s v (z1b hv),fun s v hv=>hy s v (z1b hv),fun s v hv=>hz s v (z1b hv)⟩ (fun s v hv=>?_) (fun i b hb=>?_)⟩
 ·obtain ⟨sk,y',h1,rfl⟩:=zlb (z1b hv)
  exact zex (hk.1 _ h1)
 ·obtain ⟨t,sk,y',h1,rfl⟩:=zlc (z1b hb)
  exact zex (hk.2 _ h1)

theorem z1d2 (R:Rep E w0 ok O σ tm w M) {h:Head} (hk:h.ok=true) {k:h.T→Option R0} (hg:h.getA σ k=some res):∃ x M',k x=some res∧Rep E w0 ok O (h.fill x) tm w M':=by
 unfold Head.getA at hg
 simp only [] at hg
 obtain ⟨M',R'⟩:=z1d0 R (h.sl.map (·.1)) (h.bx.map (·.1))
 generalize σ.normA (h.sl.map (·.1)) (h.bx.map (·.1))=σ1 at hg R'
 obtain ⟨x,hg,hx⟩:=zl8 hg
 obtain ⟨y,hg,hy⟩:=zl9 hg
 obtain ⟨z,hg,hz⟩:=zla hg
 simp only [Head.ok,Bool.and_eq_true,List.all_eq_true] at hk
 refine ⟨(x,y,z),M',hg,R'.le ⟨fun s v hv=>hx s v (z1b hv),fun s v hv=>hy s v (z1b hv),fun s v hv=>hz s v (z1b hv)⟩ (fun s v hv=>?_) (fun i b hb=>?_)⟩
 ·obtain ⟨sk,y',h1,rfl⟩:=zlb (z1b hv)
  exact zex (hk.1 _ h1)
 ·obtain ⟨t,sk,y',h1,rfl⟩:=zlc (z1b hb)
  exact zex (hk.2 _ h1)

theorem zey (R:Rep E w0 ok O σ tm w M) {h:Head} (hk:h.ok=true) {k:h.T→Option R0} (hg:h.get σ k=some res):∃ x M',k x=some res∧Rep E w0 ok O (h.fill x) tm w M':=by
 unfold Head.get at hg
 cases hp:h.pinned <;> rw [hp] at hg
 ·exact z1d2 R hk hg
 ·exact z1d1 R hk hg

theorem zx7 {n:Nat} {ex:List (Nat×Head)} (hex:ex.all (fun x=>x.2.ok)=true) {kx:Nat→St→Option R0} {Q:Exit→Act→World→Prop} {id:Nat} (h:z1z E w0 ok O res n (kx id) (Q (.exit id))):z1z E w0 ok O res n (ze7 ex kx id) (Q (.exit id)):=by
 intro w2 ok2 O2 hc σ a w M hk R hn hd
 unfold ze7 at hk
 split at hk
 ·rename_i hh hl
  have hok:=List.all_eq_true.1 hex _ (z1b hl)
  obtain ⟨x,M',h1,R'⟩:=zey R hok hk
  exact h _ _ _ hc _ a w M' h1 R' hn hd
 ·cases hk

def zrs (n:Nat) (ops:Array Oper):Bool:=ops.toList.all fun o=>match o.dst with | some d=>Nat.blt d n | none=>true
def z4u (n:Nat):Code→Bool
 | .region _ ops _=>zrs n ops
 | .seq a b=>z4u n a&&z4u n b
 | .cond _ a b=>z4u n a&&z4u n b
 | .block _ c=>z4u n c
 | .loop c=>z4u n c
 | _=>true
def z4v:Code→List Code
 | .seq a b=>z4v a++z4v b
 | .cond _ a b=>z4v a++z4v b
 | .block _ c=>z4v c
 | .loop c=>c::z4v c
 | _=>[]
def z66:Code→List Code
 | .seq a b=>b::(z66 a++z66 b)
 | .cond _ a b=>z66 a++z66 b
 | .block _ c=>z66 c
 | .loop c=>z66 c
 | _=>[]
def zld (E:Env) (LO:Oracles R0) (rd:St→Option R0) (b:Code) (f:St→(Nat→St→Option R0)→Option R0):Prop :=
 ∃ (h:Head) (ex:List (Nat×Head)) (F:Nat→h.T→(Nat→St→Option R0)→Option R0) (N:Nat),h.ok=true∧ex.all (fun x=>x.2.ok)=true∧(∀ x kx,F 0 x kx=none) ∧
  (∀ n x kx,F (n+1) x kx=evC E LO rd b (h.fill x) (fun σ=>h.get σ fun x'=>F n x' kx) (ze7 ex kx))∧(∀ σ kx,f σ kx=h.get σ fun x=>F N x kx)
def zx8 (E:Env) (LO:Oracles R0) (rd:St→Option R0) (b:Code) (f:St→(St→Option R0)→(Nat→St→Option R0)→Option R0):Prop :=
 ∃ (h hn:Head) (ex:List (Nat×Head)) (F:h.T→(St→Option R0)→(Nat→St→Option R0)→Option R0),h.ok=true∧hn.ok=true∧ex.all (fun x=>x.2.ok)=true ∧
  (∀ x kn kx,F x kn kx=evC E LO rd b (h.fill x) (fun σ=>hn.get σ fun y=>kn (hn.fill y)) (ze7 ex kx))∧(∀ σ kn kx,f σ kn kx=h.get σ fun x=>F x kn kx)
structure CodeOK (E:Env) (LO:Oracles R0) (rd:St→Option R0) (n:Nat) (c:Code):Prop where
 dst:z4u n c=true
 loops:∀ b∈z4v c,∀ f,LO.loop (z4l b)=some f→zld E LO rd b f
 cuts:∀ b∈z66 c,∀ f,LO.cut (z4l b)=some f→zx8 E LO rd b f

theorem z1d3 {n:Nat} {ops:Array Oper} (h:zrs n ops=true):∀ o∈ops.toList,∀ d,o.dst=some d→d<n:=by
 intro o ho d hd
 simp only [zrs,List.all_eq_true] at h
 have:=h o ho
 rw [hd] at this
 exact Nat.le_of_ble_eq_true this

theorem z1z.mono {n:Nat} {k:St→Option R0} {N N':Act→World→Prop} (h:z1z E w0 ok O res n k N) (hh:∀ a w,N a w→N' a w):z1z E w0 ok O res n k N' :=
 fun w1 ok1 O1 hc σ a w M h1 R hn hd=>hh a w (h w1 ok1 O1 hc σ a w M h1 R hn hd)

theorem z95 [Glob P] (T:zi P E.ti=true) (EQ:z2j P E) (hmix:P.follows .mixedOrders=true) {LO:Oracles R0} {rd:St→Option R0} {n:Nat}:∀ {c:Code},CodeOK E LO rd n c→∀ {w0:World} {ok O:Nat→Prop},SpecOK P E w0 O→z3h P E w0 O→∀ {kn:St→Option R0} {kx:Nat→St→Option R0} {Q:Exit→Act→World→Prop} {σ:St} {a:Act} {w:World} {M:Map},
  evC E LO rd c σ kn kx=some res→Rep E w0 ok O σ a.tmps w M→a.tmps.size=n→a.defers=[]→z1z E w0 ok O res n kn (Q .normal)→(∀ id,z1z E w0 ok O res n (kx id) (Q (.exit id)))→z1z E w0 ok O res n rd (Q .ret)→c.wp P Q a w
 | .skip,C,w0,ok,O,S,K,kn,kx,Q,σ,a,w,M,h,R,hn,hd,hkn,hkx,hrd=>wp_skip (hkn.at σ a w M h R hn hd)
 | .region id ops dr,C,w0,ok,O,S,K,kn,kx,Q,σ,a,w,M,h,R,hn,hd,hkn,hkx,hrd=>by
  have hB:=z1d3 C.dst
  cases dr with
  | false =>
   simp only [evC,cond_false] at h
   refine wp_region ?_
   have:=zrk (P:=P) T EQ S K hB hkn ops.toList 0 σ a w M rfl h R hn hd
   rw [List.range_eq_range',← Array.length_toList]
   simpa using this
  | true =>
   simp only [evC,cond_true] at h
   have:=z1cr (P:=P) (id:=id) T EQ S K hmix hB hkn h R hn hd
   simpa using this
 | .seq x y,C,w0,ok,O,S,K,kn,kx,Q,σ,a,w,M,h,R,hn,hd,hkn,hkx,hrd=>by
  have hC:z4u n x=true∧z4u n y=true:=by simpa [z4u] using C.dst
  have Cx:CodeOK E LO rd n x:=⟨hC.1,fun b hb=>C.loops b (by simp [z4v,hb]),fun b hb=>C.cuts b (by simp [z66,hb])⟩
  have Cy:CodeOK E LO rd n y:=⟨hC.2,fun b hb=>C.loops b (by simp [z4v,hb]),fun b hb=>C.cuts b (by simp [z66,hb])⟩
  simp only [evC] at h
  refine wp_seq ?_
  cases hc:LO.cut (z4l y) with
  | none =>
   rw [hc] at h
   simp only [] at h
   exact z95 T EQ hmix Cx S K h R hn hd (fun w2 ok2 O2 hc σ1 a1 w1 M1 h1 R1 hn1 hd1=>z95 T EQ hmix Cy (S.chg hc) (K.chg hc) h1 R1 hn1 hd1 (hkn.chg hc) (fun id=>(hkx id).chg hc) (hrd.chg hc)) hkx hrd
  | some f =>
   rw [hc] at h
   simp only [] at h
   obtain ⟨hh,hk,ex,F,c1,c4,c5,c2,c3⟩:=C.cuts y (by simp [z66]) f hc
   refine z95 T EQ hmix Cx S K h R hn hd (fun w2 ok2 O2 hc σ1 a1 w1 M1 h1 R1 hn1 hd1=>?_) hkx hrd
   rw [c3] at h1
   obtain ⟨x1,M2,h2,R2⟩:=zey R1 c1 h1
   rw [c2] at h2
   refine z95 T EQ hmix Cy (S.chg hc) (K.chg hc) h2 R2 hn1 hd1 (fun w5 ok5 O5 hc5 σ3 a3 w3 M3 h3 R3 hn3 hd3=>?_) (fun id=>zx7 c5 ((hkx id).chg hc)) (hrd.chg hc)
   obtain ⟨x4,M4,h4,R4⟩:=zey R3 c4 h3
   exact hkn _ _ _ (hc.trans hc5) _ a3 w3 M4 h4 R4 hn3 hd3
 | .cond x c1 c2,C,w0,ok,O,S,K,kn,kx,Q,σ,a,w,M,h,R,hn,hd,hkn,hkx,hrd=>by
  have hC:z4u n c1=true∧z4u n c2=true:=by simpa [z4u] using C.dst
  have Cx:CodeOK E LO rd n c1:=⟨hC.1,fun b hb=>C.loops b (by simp [z4v,hb]),fun b hb=>C.cuts b (by simp [z66,hb])⟩
  have Cy:CodeOK E LO rd n c2:=⟨hC.2,fun b hb=>C.loops b (by simp [z4v,hb]),fun b hb=>C.cuts b (by simp [z66,hb])⟩
  simp only [evC] at h
  split at h
  ·rename_i p hp
   have hv:=zr3 R rfl hp
   refine wp_cond hv ?_
   split at h
   ·rename_i hpt
    rw [hpt]
    exact z95 T EQ hmix Cx S K h R hn hd hkn hkx hrd
   ·rename_i hpf
    rw [if_neg hpf]
    exact z95 T EQ hmix Cy S K h R hn hd hkn hkx hrd
  ·cases h
 | .block id c,C,w0,ok,O,S,K,kn,kx,Q,σ,a,w,M,h,R,hn,hd,hkn,hkx,hrd=>by
  have Cx:CodeOK E LO rd n c:=⟨C.dst,C.loops,C.cuts⟩
  simp only [evC] at h
  refine wp_block (z95 T EQ hmix Cx S K h R hn hd hkn (fun j w2 ok2 O2 hc σ1 a1 w1 M1 h1 R1 hn1 hd1=>?_) hrd)
  simp only [z5d] at h1
  show if j=id then Q .normal a1 w1 else Q (.exit j) a1 w1
  by_cases hj:j=id
  ·rw [if_pos hj]
   simp only [hj,decide_true,cond_true] at h1
   exact hkn _ _ _ hc σ1 a1 w1 M1 h1 R1 hn1 hd1
  ·rw [if_neg hj]
   simp only [hj,decide_false,cond_false] at h1
   exact hkx j _ _ _ hc σ1 a1 w1 M1 h1 R1 hn1 hd1
 | .loop c,C,w0,ok,O,S,K,kn,kx,Q,σ,a,w,M,h,R,hn,hd,hkn,hkx,hrd=>by
  have Cx:CodeOK E LO rd n c:=⟨C.dst,fun b hb=>C.loops b (by simp [z4v,hb]),C.cuts⟩
  simp only [evC] at h
  split at h
  ·rename_i f hf
   obtain ⟨hh,ex,F,N,l1,l2,l3,l4,l5⟩:=C.loops c (by simp [z4v]) f hf
   rw [l5] at h
   obtain ⟨x,M',h1,R1⟩:=zey R l1 h
   refine wp_loop_ghost (fun m a w=>∃ x M w2 ok2 O2,F m x kx=some res∧Chg E w0 ok O w2 ok2 O2∧Rep E w2 ok2 O2 (hh.fill x) a.tmps w M∧a.tmps.size=n∧a.defers=[]) N ⟨x,M',_,_,_,h1,.refl,R1,hn,hd⟩ ?_
   intro m a1 w1 ⟨x1,M1,w2,ok2,O2,h2,hc,R2,hn2,hd2⟩
   cases m with
   | zero=>rw [l3] at h2; cases h2
   | succ m =>
    rw [l4] at h2
    refine z95 T EQ hmix Cx (S.chg hc) (K.chg hc) h2 R2 hn2 hd2 (fun w5 ok5 O5 hc5 σ3 a3 w3 M3 h3 R3 hn3 hd3=>?_) (fun id=>zx7 l2 ((hkx id).chg hc)) (hrd.chg hc)
    obtain ⟨x4,M4,h4,R4⟩:=zey R3 l1 h3
    exact ⟨m,Nat.lt_succ_self m,x4,M4,_,_,_,h4,hc.trans hc5,R4,hn3,hd3⟩
  ·cases h
 | .exit id,C,w0,ok,O,S,K,kn,kx,Q,σ,a,w,M,h,R,hn,hd,hkn,hkx,hrd=>wp_exit ((hkx id).at σ a w M h R hn hd)
 | .ret,C,w0,ok,O,S,K,kn,kx,Q,σ,a,w,M,h,R,hn,hd,hkn,hkx,hrd=>wp_ret (hrd.at σ a w M h R hn hd)
 | .goto l,C,w0,ok,O,S,K,kn,kx,Q,σ,a,w,M,h,R,hn,hd,hkn,hkx,hrd=>by cases h
 | .label l,C,w0,ok,O,S,K,kn,kx,Q,σ,a,w,M,h,R,hn,hd,hkn,hkx,hrd=>by cases h
theorem zle [Glob P] (T:zi P E.ti=true) (EQ:z2j P E) (S:SpecOK P E w0 O) (K:z3h P E w0 O) (hmix:P.follows .mixedOrders=true) {LO:Oracles R0} {rd:St→Option R0} {n:Nat} {c:Code} (C:CodeOK E LO rd n c) {kn:St→Option R0} {kx:Nat→St→Option R0} {Q:Exit→Act→World→Prop} {σ:St} {a:Act} {w:World} {M:Map}
  (h:evC E LO rd c σ kn kx=some res) (R:Rep E w0 ok O σ a.tmps w M) (hn:a.tmps.size=n) (hd:a.defers=[]) (hkn:z1z E w0 ok O res n kn (Q .normal)) (hkx:∀ id,z1z E w0 ok O res n (kx id) (Q (.exit id))) (hrd:z1z E w0 ok O res n rd (Q .ret)):c.wp P Q a w :=
 z95 T EQ hmix C S K h R hn hd hkn hkx hrd
end
end Go.Proofs.YtfinlkoplekgkaaGreatDoor.Ev
