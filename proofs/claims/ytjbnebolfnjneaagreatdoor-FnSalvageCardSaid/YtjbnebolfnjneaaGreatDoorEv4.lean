/- Plain values for a program that runs on a machine: an evaluator of loaded code and the proof that it tells what the machine does (part 4 of 7). No conditions: definitions and lemmas z4r any program. -/
import Derived.Test.YtjbnebolfnjneaaGreatDoorEv3
import Derived.Laws.Cover3
import Derived.Orders
import Derived.OrdersHeld
set_option linter.unusedVariables false
set_option linter.unusedSimpArgs false
/- A stretch of a row's flat elements, written z4r. Over any program. -/
namespace Go.Proofs.YtjbnebolfnjneaaGreatDoor.Ev
open Go.RowKit

section
variable {P : Program} {E : Env} {w0 : World} {ok O : Nat → Prop} {σ σ' : St} {tm : Array Value} {w w' : World} {M : Map} {a : Act}

theorem z8e:∀ {t:Ty} (y:L t),t.flat=true→z6 t y=[]
 | .int _,_,_=>rfl
 | .bool,_,_=>rfl
 | .str,_,_=>rfl
 | .st t,y,h=>z8e (t:=t) y h
 | .pr a b,y,h=>by
  simp only [Ty.flat,Bool.and_eq_true] at h
  simp only [z6,z8e (t:=a) y.1 h.1,z8e (t:=b) y.2 h.2,List.append_nil]
 | .sl _ _,_,h=>by cases h
 | .ptr _,_,h=>by cases h
 | .un,_,h=>by cases h
 | .fn _ _,_,h=>by cases h
 | .fs _,_,h=>by cases h
 | .rd _,_,h=>by cases h
theorem z8f:∀ {t:Ty} (y:L t),t.flat=true→∀ (F:Frz) w,holds F w t y∧plain w t y
 | .int _,_,_,_,_=>⟨trivial,trivial⟩
 | .bool,_,_,_,_=>⟨trivial,trivial⟩
 | .str,_,_,_,_=>⟨trivial,trivial⟩
 | .st t,y,h,F,w=>z8f (t:=t) y h F w
 | .pr a b,y,h,F,w=>by
  simp only [Ty.flat,Bool.and_eq_true] at h
  obtain ⟨h1,h2⟩:=z8f (t:=a) y.1 h.1 F w
  obtain ⟨h3,h4⟩:=z8f (t:=b) y.2 h.2 F w
  exact ⟨⟨h1,h3⟩,⟨h2,h4⟩⟩
 | .sl _ _,_,h,_,_=>by cases h
 | .ptr _,_,h,_,_=>by cases h
 | .un,_,h,_,_=>by cases h
 | .fn _ _,_,h,_,_=>by cases h
 | .fs _,_,h,_,_=>by cases h
 | .rd _,_,h,_,_=>by cases h
theorem zne {α:Type} {xs:List α} {lo:Nat} {ys:List α} (h:lo+ys.length≤xs.length):(z22 xs lo ys).length=xs.length:=by
 unfold z22; simp only [List.length_append,List.length_take,List.length_drop]; omega
theorem zwf {α β:Type} (f:α→β) (xs:List α) (lo:Nat) (ys:List α):(z22 xs lo ys).map f=z22 (xs.map f) lo (ys.map f):=by
 unfold z22; simp [List.map_take,List.map_drop]

theorem znf (R:Rep E w0 ok O σ tm w M) {j g lo:Nat} {r:Row} (hr:lk σ.rows j=some r) {l:L (.sl r.e r.t)} (hl:M.loc j=⟨.sl r.e r.t,l⟩) (hg:l.1=some g) (hf:r.t.flat=true) {ys:List (L r.t)} (hle:lo+ys.length≤l.2.2.length) :
  ∃ cur fz,w.heap[g]?=some (.cells cur r.e fz)∧lo*r.t.sz+ys.length*r.t.sz≤cur.size∧(fz=(0,0)∨lo*r.t.sz+ys.length*r.t.sz≤fz.1) ∧
   ∀ w':World,w'.heap[g]?=some (.cells (cur.toList.take (lo*r.t.sz)++ys.flatMap (z8 r.t)++cur.toList.drop (lo*r.t.sz+ys.length*r.t.sz)).toArray r.e fz)→(∀ k,k≠g→w'.heap[k]?=w.heap[k]?)→Kept (fun k=>k=g) w w' →
    Rep E w0 ok O (σ.setRow j ⟨r.e,r.t,z22 (l.2.2.map (erase r.t)) lo (ys.map (erase r.t)),r.z⟩) tm w' (z1g M j ⟨.sl r.e r.t,(l.1,l.2.1,z22 l.2.2 lo ys)⟩):=by
 obtain ⟨l2,hl2,he,hh,hnd,hpl⟩:=R.rows j r hr
 rw [hl] at hl2
 cases hl2
 obtain ⟨h1,h2⟩:=hh
 have h1':=h1
 rw [hg] at h1'
 obtain ⟨cur,fz,hcur,hlen,hm,hsz,htk,hfz⟩:=h1'
 have hcl:l.2.2.length*r.t.sz≤cur.size:=Nat.le_trans (Nat.mul_le_mul_right _ hlen) hsz
 have hin:lo*r.t.sz+ys.length*r.t.sz≤l.2.2.length*r.t.sz:=by rw [← Nat.add_mul]; exact Nat.mul_le_mul_right _ hle
 have hol:=zne (xs:=l.2.2) (lo:=lo) (ys:=ys) hle
 refine ⟨cur,fz,hcur,by omega,hfz.imp id (fun h=>by omega),fun w' hw' hk hkept=>?_⟩
 have hbl:∀ x:List (L r.t),x.flatMap (z6 r.t)=[]:=fun x=>by
  rw [List.flatMap_eq_nil_iff]; exact fun y _=>z8e y hf
 have key:Rep E w0 ok O (σ.setRow j ⟨r.e,r.t,erase (.sl r.e r.t) (l.1,l.2.1,z22 l.2.2 lo ys),r.z⟩) tm w' (z1g M j ⟨.sl r.e r.t,(l.1,l.2.1,z22 l.2.2 lo ys)⟩):=by
  have hne:∀ p,z4c (.sl r.e r.t) l (l.1,l.2.1,z22 l.2.2 lo ys) p:=by
   intro p e1 t1 l1 h
   match p with
   | []=>cases h; exact ⟨_,rfl,rfl,rfl,hol⟩
   | .f _::_=>cases h
   | .u::_=>cases h
   | .ix n::q =>
    obtain ⟨z,hz,h⟩:=Option.bind_eq_some_iff.1 h
    have:=z9b r.t z q _ hf h
    cases this
  refine R.upd (bs:=[]) hr hl ⟨hkept.os,hkept.tape,hkept.output,hkept.size,fun k hk1 hk2=>hkept.block k hk1 (fun e=>hk2 (by simp [z6,hg,e]))⟩ ⟨?_,fun y _=>(z8f y hf _ w').1⟩ ?_ (fun hz=>⟨?_,fun y _=>(z8f y hf (fun _ _ _=>False) w').2⟩) (by simp [z8,hol]) (fun k hk=>?_) Free.nil (fun _ _ _ p _=>hne p) (fun _ _ _ p _=>hne p)
  ·show (match l.1 with | none=>_ | some b=>_)
   rw [hg]
   refine ⟨_,fz,hw',by show (z22 l.2.2 lo ys).length≤_; rw [hol]; exact hlen,hm,?_,?_,by show fz=(0,0)∨(z22 l.2.2 lo ys).length*_≤_; rw [hol]; exact hfz⟩
   ·have hfl:(ys.flatMap (z8 r.t)).length=ys.length*r.t.sz:=z1l _ _
    simp only [List.size_toArray,List.length_append,List.length_take,List.length_drop,Array.length_toList,hfl]
    omega
   ·show List.take ((z22 l.2.2 lo ys).length*r.t.sz) _=(z22 l.2.2 lo ys).flatMap (z8 r.t)
    rw [hol]
    have hX:((l.2.2.take lo).flatMap (z8 r.t)).length=lo*r.t.sz:=by rw [z1l,List.length_take,Nat.min_eq_left (by omega)]
    have hY:(ys.flatMap (z8 r.t)).length=ys.length*r.t.sz:=z1l _ _
    have hZ:((l.2.2.drop (lo+ys.length)).flatMap (z8 r.t)).length=(l.2.2.length-(lo+ys.length))*r.t.sz:=by rw [z1l,List.length_drop]
    have hxx:l.2.2.flatMap (z8 r.t)=(l.2.2.take lo).flatMap (z8 r.t)++((l.2.2.drop lo).take ys.length).flatMap (z8 r.t)++(l.2.2.drop (lo+ys.length)).flatMap (z8 r.t):=by
     rw [← List.flatMap_append,← List.flatMap_append]
     congr 1
     rw [List.append_assoc,← List.drop_drop,List.take_append_drop,List.take_append_drop]
    have hmid:(((l.2.2.drop lo).take ys.length).flatMap (z8 r.t)).length=ys.length*r.t.sz:=by rw [z1l,List.length_take,List.length_drop,Nat.min_eq_left (by omega)]
    have hcurl:cur.toList=(l.2.2.take lo).flatMap (z8 r.t)++((l.2.2.drop lo).take ys.length).flatMap (z8 r.t)++(l.2.2.drop (lo+ys.length)).flatMap (z8 r.t)++cur.toList.drop (l.2.2.length*r.t.sz):=by
     rw [← hxx,← htk,List.take_append_drop]
    have e1:cur.toList.take (lo*r.t.sz)=(l.2.2.take lo).flatMap (z8 r.t):=by
     rw [hcurl]
     simp only [List.append_assoc]
     rw [List.take_left' hX]
    have e2:cur.toList.drop (lo*r.t.sz+ys.length*r.t.sz)=(l.2.2.drop (lo+ys.length)).flatMap (z8 r.t)++cur.toList.drop (l.2.2.length*r.t.sz):=by
     conv=>lhs; rw [hcurl]
     simp only [List.append_assoc]
     rw [← List.append_assoc,List.drop_left' (by rw [List.length_append,hX,hmid])]
    rw [e1,e2]
    unfold z22
    rw [List.flatMap_append,List.flatMap_append,← List.append_assoc,List.take_left']
    rw [List.length_append,List.length_append,hX,hY,hZ]
    have:(l.2.2.length-(lo+ys.length))*r.t.sz+(lo*r.t.sz+ys.length*r.t.sz)=l.2.2.length*r.t.sz:=by rw [← Nat.add_mul,← Nat.add_mul,Nat.sub_add_cancel hle]
    omega
  ·simp only [z6,hbl,List.append_nil]
   rw [hg]; simp
  ·intro b hb
   have hb:l.1=some b:=hb
   rw [hg] at hb
   cases hb
   obtain ⟨cur',e',k1,k2⟩:=(hpl hz).1 g hg
   rw [hcur] at k1
   cases k1
   refine ⟨_,r.e,hw',?_⟩
   have hfl:(ys.flatMap (z8 r.t)).length=ys.length*r.t.sz:=z1l _ _
   simp only [List.size_toArray,List.length_append,List.length_take,List.length_drop,Array.length_toList,hfl]
   rw [← k2]
   omega
  ·left
   simp only [z6,hbl,List.append_nil] at hk ⊢
   exact hk
 have hxs:erase (.sl r.e r.t) (l.1,l.2.1,z22 l.2.2 lo ys)=z22 (l.2.2.map (erase r.t)) lo (ys.map (erase r.t)):=by simp only [erase,zwf]
 rw [hxs] at key
 exact key

theorem zwg {R0:Type} {res:R0} (R:Rep E w0 ok O σ tm w M) {t tx ty e:TypeId} {u:Ty} {i:TypeInfo} (ht:P.underlying t=some (.slice e)) (hi:P.info? e=some i) (hsz:i.size=u.sz) {j n:Nat} {v x:Value} {cs:List Value}
  (hs:za w0 ok M (.vw j 0 n) cs) (hcs:cs=[v]) {ls:List (L u)} (hsrc:Src P u.sz tx x ls.length (ls.flatMap (z8 u)) w) {dst:Option Tmp} (hin:inB dst tm) {k:St→Option R0} (h:zhy σ dst e u j n (ls.map (erase u)) k=some res) :
  ∃ v' w' σ' M',(Builtin.append_ #[t,tx] ty #[v,x]).run P w=.ok v' w'∧k σ'=some res∧Rep E w0 ok O σ' (z3l tm dst v') w' M':=by
 rw [← hsz] at hsrc
 unfold zhy at h
 split at h
 ·rename_i r hr
  cases hb:(r.t.flat&&!r.z) <;> rw [hb] at h
  ·cases h
  ·simp only [cond_true] at h
   simp only [Bool.and_eq_true,Bool.not_eq_true'] at hb
   obtain ⟨re,rt,rxs,rz⟩:=r
   simp only at hb h
   unfold zf at h
   split at h
   ·rename_i heq
    injection heq with he ht2
    subst he
    subst ht2
    dsimp only at h
    split at h
    ·rename_i hle
     obtain ⟨e1,t1,l1,hl1,hln,A,c,hce,hc,hA⟩:=hs
     rw [hcs] at hce
     cases hce
     obtain ⟨l,hl,hex,hh,hnd,hpl⟩:=R.rows j _ hr
     rw [hl] at hl1
     cases hl1
     have hA2:A=l.1.map fun g=>⟨g,0,none⟩:=by have:=hA (.inr rfl); simpa using this
     clear hA
     have hlen:rxs.length=l.2.2.length:=by
      have:erase (.sl e u) l=rxs:=hex
      rw [← this]; simp [erase]
     have hle:n+ls.length≤l.2.2.length:=by
      have:n+(ls.map (erase u)).length≤rxs.length:=hle
      rw [List.length_map,hlen] at this; exact this
     have hc':c=l.2.1:=by omega
     subst hc'
     cases hg:l.1 with
     | none =>
      have h1:=hh.1
      rw [hg] at h1
      have hl0:l.2.2.length=0:=by rw [h1.1]; rfl
      have hn0:n=0:=by omega
      have hls:ls=[]:=List.eq_nil_of_length_eq_zero (by omega)
      subst hn0; subst hls
      have hr2:=run_append_nothing (P:=P) w t tx ty e i ht hi none 0 l.2.1 (Nat.zero_le _) x hsrc
      obtain ⟨l2,q1,q2⟩:∃ M',Rep E w0 ok O (σ.setRow j ⟨e,u,rxs,rz⟩) tm w M'∧M'.loc j=⟨.sl e u,l⟩:=by
       have:=R.upd (bs:=[]) (l':=l) hr hl (Kept.refl _ _) hh hnd hpl rfl (fun k hk=>.inl hk) Free.nil (fun _ _ _ p _=>z4c.refl _ _ _) (fun _ _ _ p _=>z4c.refl _ _ _)
       have hex':erase (.sl e u) l=rxs:=hex
       rw [hex'] at this
       exact ⟨_,this,z1n _ _ _⟩
      have hov:z22 rxs 0 (List.map (erase u) ([]:List (L u)))=rxs:=by simp [z22]
      rw [hov] at h
      refine ⟨_,w,_,_,?_,h,q1.putV (s:=.vw j 0 0) ⟨_,⟨e,u,l,q2,by omega,A,l.2.1,rfl,by omega,fun _=>by rw [hA2]; simp⟩,.inr ⟨rfl,rfl⟩⟩ ⟨fun q hq=>?_,by simp [SV.boxes]⟩ hin⟩
      ·rw [hA2,hg]
       simpa using hr2
      ·simp [SV.roots] at hq
       subst hq
       exact ⟨⟨e,u,rxs,rz⟩,by show lk (up σ.rows q _) q=_; rw [z6o,if_pos rfl,hr]; rfl⟩
     | some g =>
      obtain ⟨cur',e',k1,k2⟩:=(hpl hb.2).1 g hg
      obtain ⟨cur,fz,o1,o2,o3,o4⟩:=znf R hr hl hg hb.1 (lo:=n) (ys:=ls) hle
      rw [k1] at o1
      cases o1
      have hcap:l.2.2.length≤l.2.1:=by
       have h1:=hh.1
       rw [hg] at h1
       obtain ⟨_,_,_,h2,_⟩:=h1
       exact h2
      have hfl:(ls.flatMap (z8 u)).length=ls.length*u.sz:=z1l _ _
      have o2:n*u.sz+ls.length*u.sz≤cur'.size:=o2
      have hr2:=run_append_room_src (P:=P) w t tx ty e i ht hi g 0 n l.2.1 x ls.length _ hsrc (by omega) (fun q hq=>by
       have:n*i.size+q<cur'.size:=by rw [hsz]; omega
       simp [World.cell?,k1,this]) (fun q hq=>by simp [World.frozen?,k1])
      obtain ⟨c1,c2,c3⟩:=z9c (o:=0+n*i.size) k1 (by rw [hsz]; omega) hsrc.one
      rw [hsz,Nat.zero_add,hfl] at c1
      have R2:=o4 _ (by rw [hsz,Nat.zero_add]; exact c1) c2 c3
      have hex':l.2.2.map (erase u)=rxs:=hex
      have R3:Rep E w0 ok O (σ.setRow j ⟨e,u,z22 rxs n (ls.map (erase u)),rz⟩) tm (w.setCells g (0+n*i.size) (ls.flatMap (z8 u))) (z1g M j ⟨.sl e u,(l.1,l.2.1,z22 l.2.2 n ls)⟩):=by rw [← hex']; exact R2
      refine ⟨_,_,_,_,?_,h,R3.putV (s:=.vw j 0 (n+(ls.map (erase u)).length)) ⟨_,⟨e,u,_,z1n _ _ _,?_,some ⟨g,0,none⟩,l.2.1,rfl,rfl,fun _=>?_⟩,.inr ⟨rfl,rfl⟩⟩ ⟨fun q hq=>?_,by simp [SV.boxes]⟩ hin⟩
      ·rw [hA2,hg,List.length_map]
       exact hr2
      ·show 0+(n+(ls.map (erase u)).length)≤(z22 l.2.2 n ls).length
       rw [zne hle,List.length_map]; omega
      ·show some _=l.1.map _
       rw [hg]; simp
      ·simp [SV.roots] at hq
       subst hq
       exact ⟨_,by show lk (up σ.rows q _) q=_; rw [z6o,if_pos rfl,hr]; rfl⟩
    ·cases h
   ·cases h
 ·cases h
end

section
variable {P : Program} {E : Env} {w0 : World} {ok O : Nat → Prop} {σ σ' : St} {tm : Array Value} {w w' : World} {M : Map} {a : Act}

theorem Free.perm {bs cs:List Nat} (h:Free w0 ok O σ M bs) (p:bs.Perm cs):Free w0 ok O σ M cs :=
 ⟨p.nodup_iff.1 h.nd,fun k hk=>h.own k (p.mem_iff.2 hk),fun i hi k hk=>h.rows i hi k (p.mem_iff.2 hk),fun i hi hk=>h.bx i hi (p.mem_iff.2 hk)⟩

theorem zfi {R0:Type} {res:R0} (R:Rep E w0 ok O σ tm w M) {t tx ty e:TypeId} {u:Ty} {i:TypeInfo} {z:Value} (ht:P.underlying t=some (.slice e)) (hi:P.info? e=some i) (hz:i.zero=some z) (hsz:i.size=u.sz) (hzs:z.cells.size=u.sz) (hpos:0<u.sz) (hb0:0<i.bytes)
  {l:L (.sl e u)} (hh:holds (Rd w0 ok) w (.sl e u) l) (hp:plain w (.sl e u) l) {ls:List (L u)} {x:Value} (hs:Src P u.sz tx x ls.length (ls.flatMap (z8 u)) w) (hls:∀ y∈ls,holds (Rd w0 ok) w u y∧plain w u y)
  (hf:Free w0 ok O σ M (ls.flatMap (z6 u)++z6 (.sl e u) l)) {d:Nat} {dst:Option Tmp} (hin:inB dst tm) {k:St→Option R0} (h:zae σ d dst e u i.bytes (l.2.2.map (erase u)) (ls.map (erase u)) k=some res) :
  ∃ v w' σ' M',(Builtin.append_ #[t,tx] ty #[.slice (l.1.map fun g=>⟨g,0,none⟩) l.2.2.length l.2.1,x]).run P w=.ok v w'∧k σ'=some res∧Rep E w0 ok O σ' (z3l tm dst v) w' M':=by
 unfold zae at h
 split at h
 ·rename_i hby
  simp only [List.length_map] at hby
  cases hpin:Nat.blt (32*d) PIN <;> rw [hpin] at h
  ·cases h
  simp only [cond_true] at h
  have hf2:Free w0 ok O σ M (z6 (.sl e u) l++ls.flatMap (z6 u)):=hf.perm List.perm_append_comm
  have hdis:∀ g,l.1=some g→g∉l.2.2.flatMap (z6 u)∧g∉ls.flatMap (z6 u):=by
   intro g hg
   have hn:=hf2.nd
   simp only [z6,hg,Option.toList_some,List.singleton_append,List.cons_append,List.nodup_cons,List.mem_append,not_or] at hn
   exact ⟨hn.1.1.2,hn.1.2⟩
  obtain ⟨w',l',h1,h2,h3,h4,h5,h6⟩:=zn9 (P:=P) (ty:=ty) ht hi hz hsz hzs hpos hh hp hs hls hdis hby hb0
  have hall:∀ q∈l.2.2++ls,∀ k∈z6 u q,k<w.heap.size:=fun q hq k hk=>by
   rcases List.mem_append.1 hq with hq | hq
   ·exact z1d (hh.2 q hq) k hk
   ·exact z1d (hls q hq).1 k hk
  have htail:(l.2.2++ls).flatMap (z6 u)=l.2.2.flatMap (z6 u)++ls.flatMap (z6 u):=List.flatMap_append
  have hfl:Free w0 ok O σ M (z6 (.sl e u) l'):=by
   have hb:z6 (.sl e u) l'=l'.1.toList++(l.2.2++ls).flatMap (z6 u):=by simp only [z6,h2]
   rw [hb]
   rcases h5 with h5 | h5
   ·rw [h5,htail,← List.append_assoc]
    exact hf2
   ·rw [h5]
    have ht2:Free w0 ok O σ M ((l.2.2++ls).flatMap (z6 u)):=by
     rw [htail]
     refine hf2.sublist ?_
     simp only [z6,List.append_assoc]
     exact List.sublist_append_right _ _
    simp only [Option.toList_some,List.singleton_append]
    refine ⟨List.nodup_cons.2 ⟨fun hm=>?_,ht2.nd⟩,fun k hk=>?_,fun i hi k hk=>?_,fun i hi hk=>?_⟩
    ·obtain ⟨q,hq,hk⟩:=List.mem_flatMap.1 hm
     exact Nat.lt_irrefl _ (hall q hq _ hk)
    ·rcases List.mem_cons.1 hk with rfl | hk
     ·exact ⟨fun h=>Nat.lt_irrefl _ (R.ok_lt h),.inr R.kept.size⟩
     ·exact ht2.own k hk
    ·rcases List.mem_cons.1 hk with rfl | hk
     ·obtain ⟨r,hr⟩:=hi
      obtain ⟨l2,g1,_,g3,_⟩:=R.rows i r hr
      rw [g1]
      exact fun hk=>Nat.lt_irrefl _ (z1d g3 _ hk)
     ·exact ht2.rows i hi k hk
    ·rcases List.mem_cons.1 hk with hk | hk
     ·obtain ⟨b,hb⟩:=hi
      obtain ⟨cs,_,g2,_⟩:=R.boxes i b hb
      have:=(Array.getElem?_eq_some_iff.1 g2).1
      omega
     ·exact ht2.bx i hi hk
  have R':=R.freeWorld (w':=w') (bs:=z6 (.sl e u) l) (hf2.sublist (List.sublist_append_left _ _)) ⟨h6.os,h6.tape,h6.output,h6.size,fun k hk hn=>h6.block k hk (fun e=>hn (by simp [z6,e]))⟩
  have R2:=R'.addOwn (32*d) (Nat.le_of_ble_eq_true hpin) l' h3 h4 hfl
  have hxs:erase (.sl e u) l'=l.2.2.map (erase u)++ls.map (erase u):=by simp only [erase,h2,List.map_append]
  rw [hxs] at R2
  refine ⟨_,w',_,_,h1,h,R2.putV (s:=.ref (32*d) []) ⟨z8 (.sl e u) l',⟨e,u,l',(congrArg (fun z:Loc=>zr z.1 z.2 []) (z1n M.loc (32*d) ⟨.sl e u,l'⟩)).trans rfl,rfl⟩,.inr ⟨rfl,rfl⟩⟩ ⟨fun j hj=>?_,by simp [SV.boxes]⟩ hin⟩
  simp [SV.roots] at hj
  subst hj
  exact ⟨_,z5b _ _ _⟩
 ·cases h

theorem zwh {s:SV} {t:Option SV} {j n:Nat} (h:zhx s t=some (j,n)):s=.vw j 0 n:=by
 unfold zhx at h
 split at h
 ·rename_i j' n' i' _ _
  cases hb:Nat.beq i' j' <;> rw [hb] at h <;> cases h
  rfl
 ·cases h
theorem zng {s:SV} {u:Ty} {e:TypeId} {l:L (.sl e u)} {v:Value} {cs:List Value} (hst:s.isSt=false) (h4:z8 (.sl e u) l=cs) (h5:z2h s v cs):v=.slice (l.1.map fun g=>⟨g,0,none⟩) l.2.2.length l.2.1:=by
 rcases h5 with ⟨h6,_⟩ | ⟨_,h6⟩
 ·rw [hst] at h6; cases h6
 ·rw [← h4] at h6
  simp only [z8,List.cons.injEq,and_true] at h6; exact h6.symm
theorem zwi {R0:Type} {res:R0} (R:Rep E w0 ok O σ tm w M) (hat:a.tmps=tm) (T:zb P E.ti=true) {d:Nat} {dst:Option Tmp} (hin:inB dst tm) {t tx ty:TypeId} {x y:Operand} {k:St→Option R0} (h:zhz E σ d dst t tx x y k=some res) :
  ∃ v w' σ' M' w2 ok2 O2,Chg E w0 ok O w2 ok2 O2∧(Builtin.append_ #[t,tx] ty #[a.eval x,a.eval y]).run P w=.ok v w'∧k σ'=some res∧Rep E w2 ok2 O2 σ' (z3l tm dst v) w' M':=by
 unfold zhz at h
 have info:∀ {e:TypeId} {i:TI} {z:(E.tyOf e).T},E.ti[e]?=some i→(E.tyOf e).zero=some z→∃ (ti:TypeInfo) (v:Value),P.info? e=some ti∧ti.zero=some v∧ti.size=(E.tyOf e).sz∧v.cells.size=(E.tyOf e).sz∧0<(E.tyOf e).sz∧0<ti.bytes∧ti.bytes=i.bytes:=by
  intro e i z hi hz
  obtain ⟨ti,v,i1,i2,i3,i4⟩:=z99 T hz
  obtain ⟨⟨ti',j1,j2,j3,j4,j5⟩,_⟩:=(z2f T hi (by
   intro hsh
   have:=z95 T hi
   unfold z7a at this
   rw [hsh] at this
   simp only [Bool.and_eq_true,beq_iff_eq] at this; replace this:=this.1
   have h9:E.tyOf e=.un:=by rw [Env.tyOf,hi]; exact this
   have:=z68 _ hz
   rw [h9] at this
   exact this rfl)).1
  rw [i1] at j1
  cases j1
  exact ⟨ti,v,i1,i2,i4,by rw [← Array.length_toList,i3,zd8 _ hz],Nat.pos_of_ne_zero (z68 _ hz),j4,j3⟩
 split at h
 ·-- elements that are only read
  rename_i e e' u b ht
  obtain ⟨hu,rfl,hue⟩:=zuu T ht (zil T _)
  have husz:(Ty.rd u).sz=(E.tyOf e').sz:=by rw [hue]; exact z61 _
  split at h
  ·rename_i i z hi hz
   obtain ⟨ti,v,i1,i2,i4,hvs,hpos,j4,j3⟩:=info hi hz
   rw [← j3] at h
   rw [← husz] at i4 hvs hpos
   split at h
   ·obtain ⟨σ1,ls,ok1,O1,hm,B,g1,g2⟩:=znd (P:=P) R hat T h
    obtain ⟨v1,w',σ',M',q1,q2,q3⟩:=zfi (P:=P) (ty:=ty) (l:=((none,0,[]):L (.sl e' (.rd u)))) g2.ea.rep hu i1 i2 i4 hvs hpos j4 ⟨⟨rfl,rfl⟩,by simp⟩ ⟨fun b hb=>(nomatch hb),by simp⟩ g2.src g2.ho (by simp only [z6,Option.toList_none,List.nil_append,List.flatMap_nil,List.append_nil]; exact g2.ea.free) hin g1
    exact ⟨v1,w',σ',M',_,_,_,.inr ⟨hm,B⟩,q1,q2,q3⟩
   ·split at h
    ·rename_i s hs
     obtain ⟨σ1,ls,ok1,O1,hm,B,g1,g2⟩:=znd (P:=P) R hat T h
     obtain ⟨h1,h2⟩:=zz R hat hs
     rcases z34 h1 with rfl | ⟨c,vs,rfl,_,_⟩ | ⟨cs,h4,h5⟩
     ·cases g1
     ·cases g1
     ·obtain ⟨σ2,vt,l,k1,k2,k3,k4,k5,k6⟩:=z5d depth w _ _ σ1 tm w M s cs _ g2.ea.rep (z3d (fun _ _ _ h=>B.rd h) h4) g1
      unfold zf at k1
      split at k1
      ·rename_i hvt
       subst hvt
       rw [zng k5 k4 h5]
       obtain ⟨v1,w',σ',M',q1,q2,q3⟩:=zfi (P:=P) (ty:=ty) k6.rep hu i1 i2 i4 hvs hpos j4 k2 k3 g2.src g2.ho (g2.ea.free.append k6.free k6.sub k6.src) hin k1
       exact ⟨v1,w',σ',M',_,_,_,.inr ⟨hm,B⟩,q1,q2,q3⟩
      ·cases k1
    ·cases h
  ·cases h
 ·rename_i e e' u b hnrd ht
  obtain ⟨hu,hty⟩:=zcv T ht (fun v hv=>by subst hv; exact hnrd _ rfl)
  have hue:u=E.tyOf e:=by injection hty
  subst hue
  split at h
  ·rename_i i z hi hz
   obtain ⟨ti,v,i1,i2,i4,hvs,hpos,j4,j3⟩:=info hi hz
   have he:e'=e:=by injection hty
   subst he
   rw [← j3] at h
   suffices H:∃ v w' σ' M',(Builtin.append_ #[t,tx] ty #[a.eval x,a.eval y]).run P w=.ok v w'∧k σ'=some res∧Rep E w0 ok O σ' (z3l tm dst v) w' M' by
    obtain ⟨v1,w',σ',M',q1,q2,q3⟩:=H
    exact ⟨v1,w',σ',M',_,_,_,.refl,q1,q2,q3⟩
   split at h
   ·obtain ⟨σ1,ls,g1,g2⟩:=zfh (P:=P) R hat T h
    exact zfi (P:=P) (l:=(none,0,[])) g2.ea.rep hu i1 i2 i4 hvs hpos j4 ⟨⟨rfl,rfl⟩,by simp⟩ ⟨fun b hb=>(nomatch hb),by simp⟩ g2.src g2.ho (by simp only [z6,Option.toList_none,List.nil_append,List.flatMap_nil,List.append_nil]; exact g2.ea.free) hin g1
   ·split at h
    ·rename_i s hs
     split at h
     ·rename_i j n hsv
      obtain ⟨σ1,ls,g1,g2⟩:=zfh (P:=P) R hat T h
      obtain ⟨h1,h2⟩:=zz R hat hs
      have hvw:=zwh hsv
      subst hvw
      obtain ⟨cs,h4,h5⟩:=h1
      have hcs:cs=[a.eval x]:=by
       rcases h5 with ⟨h6,_⟩ | ⟨_,h6⟩
       ·cases h6
       ·exact h6
      exact zwg (P:=P) g2.ea.rep hu i1 i4 h4 hcs g2.src hin g1
     ·obtain ⟨σ1,ls,g1,g2⟩:=zfh (P:=P) R hat T h
      obtain ⟨h1,h2⟩:=zz R hat hs
      rcases z34 h1 with rfl | ⟨c,vs,rfl,_,_⟩ | ⟨cs,h4,h5⟩
      ·cases g1
      ·cases g1
      ·obtain ⟨σ2,vt,l,k1,k2,k3,k4,k5,k6⟩:=z5d depth w0 ok O σ1 tm w M s cs _ g2.ea.rep h4 g1
       unfold zf at k1
       split at k1
       ·rename_i hvt
        subst hvt
        rw [zng k5 k4 h5]
        exact zfi (P:=P) k6.rep hu i1 i2 i4 hvs hpos j4 k2 k3 g2.src g2.ho (g2.ea.free.append k6.free k6.sub k6.src) hin k1
       ·cases k1
    ·cases h
  ·cases h
 ·cases h

def z1k (E:Env) (w0:World) (ok O:Nat→Prop) {R0:Type} (res:R0) (n:Nat) (k:St→Option R0) (next:Act→World→Prop):Prop :=
 ∀ (w1:World) (ok1 O1:Nat→Prop),Chg E w0 ok O w1 ok1 O1→∀ (σ:St) (a:Act) (w:World) (M:Map),k σ=some res→Rep E w1 ok1 O1 σ a.tmps w M→a.tmps.size=n→a.defers=[]→next a w
theorem z1k.at {R0:Type} {res:R0} {n:Nat} {k:St→Option R0} {next:Act→World→Prop} (h:z1k E w0 ok O res n k next):∀ (σ:St) (a:Act) (w:World) (M:Map),k σ=some res→Rep E w0 ok O σ a.tmps w M→a.tmps.size=n→a.defers=[]→next a w:=h _ _ _ .refl
theorem z1k.chg {R0:Type} {res:R0} {n:Nat} {k:St→Option R0} {next:Act→World→Prop} (h:z1k E w0 ok O res n k next) {w1:World} {ok1 O1:Nat→Prop} (hc:Chg E w0 ok O w1 ok1 O1):z1k E w1 ok1 O1 res n k next:=fun _ _ _ c=>h _ _ _ (hc.trans c)
theorem SpecOK.chg [Glob P] (S:SpecOK P E w0 O) {w1:World} {ok1 O1:Nat→Prop} (hc:Chg E w0 ok O w1 ok1 O1):SpecOK P E w1 O1 :=
 ⟨fun g args n t r h hn w vs hk=>S.rd g args n t r h hn w vs (hc.kept hk),fun g args t r h w ok' vs hk=>S.ro g args t r h w ok' vs (hc.kept hk),fun g args n t r h hn w ok' vs hk=>S.nb g args n t r h hn w ok' vs (hc.kept hk)⟩

theorem zj4 [Glob P] {R0:Type} {res:R0} (R:Rep E w0 ok O σ a.tmps w M) (T:zb P E.ti=true) (EQ:z1v P E) (S:SpecOK P E w0 O) {o:Oper} (hin:inB o.dst a.tmps) (hd:a.defers=[]) {k:St→Option R0} (h:z8y E σ o k=some res)
  {next:Act→World→Prop} {Q:Exit→Act→World→Prop} (hn:z1k E w0 ok O res a.tmps.size k next):o.wp P a w next Q:=by
 unfold z8y at h
 rw [zew] at h
 obtain ⟨out,h1,h2⟩:=Option.bind_eq_some_iff.1 h
 cases hf:(σ.clean (zp o)).fresh (zp o) out.2.1 out.2.2 <;> rw [hf] at h2
 ·cases h2
 ·simp only [cond_true] at h2
  have R':=R.clean (zp o)
  refine zn1 R' rfl T EQ S h1 hf next Q fun v w' M' X=>?_
  refine hn.at _ _ w' M' h2 ?_ (by rw [z1j,z3s]) (by rw [z47]; exact hd)
  rw [z1j]
  exact R'.add hf X hin
end

section
variable {P : Program} {E : Env} {w0 : World} {ok O : Nat → Prop} {σ σ' : St} {tm : Array Value} {w w' : World} {M : Map} {a : Act}

theorem zwj {t:Ty} {l:L t} {v:Value} (hv:v.cells=(z8 t l).toArray) (hsz:t.sz≠0) (n:Nat):(Builtin.zeroCells v.cells n).toList=(List.replicate n l).flatMap (z8 t):=by
 have hvs:v.cells.size=t.sz:=by rw [hv]; simp [z1s]
 have:Builtin.zeroCells v.cells n=((List.replicate n l).flatMap (z8 t)).toArray:=by
  apply Array.ext
  ·rw [size_zeroCells,hvs,List.size_toArray,z1l,List.length_replicate]
  ·intro k hk1 hk2
   rw [size_zeroCells,hvs] at hk1
   simp only [Builtin.zeroCells,Array.getElem_map,Array.getElem_range,hvs]
   have hm:k % t.sz<t.sz:=Nat.mod_lt _ (by omega)
   rw [getElem!_pos _ _ (by rw [hvs]; exact hm)]
   have hq:k / t.sz<n:=by rw [Nat.div_lt_iff_lt_mul (by omega)]; exact hk1
   have hf:=zec t (List.replicate n l) (k / t.sz) l (by simp [hq]) (k % t.sz) hm
   rw [Nat.mul_comm,Nat.div_add_mod] at hf
   have h7:((List.replicate n l).flatMap (z8 t))[k]?=some v.cells[k % t.sz]:=by
    rw [hf,List.getElem?_eq_getElem (by rw [z1s]; exact hm)]
    simp only [hv,List.getElem_toArray]
   rw [List.getElem?_eq_some_iff] at h7
   obtain ⟨_,h7⟩:=h7
   rw [List.getElem_toArray]
   exact h7.symm
 rw [this]

theorem Rep.same (R:Rep E w0 ok O σ tm w M) {j:Nat} {r:Row} (hr:lk σ.rows j=some r):∃ M',Rep E w0 ok O (σ.setRow j r) tm w M':=by
 obtain ⟨l,hl,he,hh,hnd,hpl⟩:=R.rows j r hr
 have:=R.upd (bs:=[]) (l':=l) hr hl (Kept.refl _ _) hh hnd hpl rfl (fun k hk=>.inl hk) Free.nil (fun _ _ _ p _=>z4c.refl _ _ _) (fun _ _ _ p _=>z4c.refl _ _ _)
 rw [he] at this
 exact ⟨_,this⟩

theorem zwk {R0:Type} {res:R0} (R:Rep E w0 ok O σ tm w M) (hat:a.tmps=tm) (T:zb P E.ti=true) {xt ty:TypeId} {x:Operand} {k:St→Option R0} (h:zi0 E σ xt x k=some res) :
  ∃ w' σ' M',(Builtin.clear_ #[xt] ty #[a.eval x]).run P w=.ok (.tuple #[]) w'∧k σ'=some res∧Rep E w0 ok O σ' tm w' M':=by
 unfold zi0 at h
 split at h
 ·rename_i e e' u b j lo n hti hx
  obtain ⟨hu,hty⟩:=z6h T hti
  obtain ⟨⟨cs,⟨e1,t1,l1,hl1,hln,A,c,rfl,hc,hA⟩,hw⟩,hlive⟩:=zz R hat hx
  have hv:a.eval x=.slice A n c:=by
   rcases hw with ⟨h5,_⟩ | ⟨_,h5⟩
   ·cases h5
   ·simp only [List.cons.injEq,and_true] at h5; exact h5.symm
  split at h
  ·rename_i r hr
   split at h
   ·rename_i z hz
    cases hb:((Nat.beq r.e e&&decide (r.t=E.tyOf e))&&r.t.flat) <;> rw [hb] at h
    ·cases h
    ·simp only [cond_true] at h
     simp only [Bool.and_eq_true,decide_eq_true_eq] at hb
     obtain ⟨⟨b1,b2⟩,b3⟩:=hb
     have b1:=Nat.eq_of_beq_eq_true b1
     obtain ⟨l,hl,he,hh,hnd,hpl⟩:=R.rows j r hr
     rw [hl] at hl1
     cases hl1
     rw [hv]
     by_cases hn:n=0
     ·subst hn
      obtain ⟨M',R'⟩:=R.same hr
      refine ⟨w,_,M',?_,h,?_⟩
      ·cases A <;> simp [Builtin.clear_,run_underlying hu]
      ·have:z22 r.xs lo (List.replicate 0 z)=r.xs:=by simp [z22]
       rw [this]; exact R'
     ·have hA:=hA (.inl (by omega))
      cases hg:l.1 with
      | none =>
       have:=hh.1
       rw [hg] at this
       rw [this.1] at hln
       simp at hln
       omega
      | some g =>
       rw [hg] at hA
       obtain ⟨zl,z1,z2,z3,z4⟩:=z7f r.t hz
       have hz':(E.tyOf e).zero=some (b2▸z):=by
        have key:∀ (t:Ty) (e2:r.t=t),t.zero=some (e2▸z):=by intro t e2; subst e2; exact hz
        exact key _ b2
       obtain ⟨ti,v,i1,i2,i3,i4⟩:=z99 T hz'
       have hcz:z2e (E.tyOf e)=z2e r.t:=by rw [b2]
       have hvc:v.cells=(z8 r.t zl).toArray:=by apply Array.ext'; rw [i3,hcz,← z2]
       have hsz:r.t.sz≠0:=zcx b3
       have hys:=zwj hvc hsz n
       obtain ⟨cur,fz,k1,k2,k3,k4⟩:=znf R hr hl hg b3 (lo:=lo) (ys:=List.replicate n zl) (by rw [List.length_replicate]; exact hln)
       have hyl:((List.replicate n zl).flatMap (z8 r.t)).length=n*r.t.sz:=by rw [z1l,List.length_replicate]
       rw [List.length_replicate] at k2 k3 k4
       have hone:=z9d (List.replicate n zl)
       obtain ⟨w',e1,e2,e3,e4⟩:=zfd P g r.e fz ((List.replicate n zl).flatMap (z8 r.t)) (lo*r.t.sz) 0 cur w k1 (by rw [hyl]; simpa using k2) (by rw [hyl]; simpa using k3) hone
       rw [hyl,Nat.add_zero] at e2
       have R2:=k4 w' e2 e3 e4
       have hex:l.2.2.map (erase r.t)=r.xs:=he
       rw [List.map_replicate,z1,hex] at R2
       refine ⟨w',_,_,?_,h,R2⟩
       ·rw [hA]
        have hzv:(zeroValue e).run P w=.ok v w:=by simp [zeroValue,typeInfo,i1,i2]
        obtain ⟨m,rfl⟩:∃ m,n=m+1:=⟨n-1,by omega⟩
        have e1':(storeCells ⟨g,lo*r.t.sz,none⟩ (Builtin.zeroCells v.cells (m+1)).toList).run P w=.ok () w':=by rw [hys]; exact e1
        simp [Builtin.clear_,run_underlying hu,hzv,e1']
   ·cases h
  ·cases h
 ·cases h
end

section
variable {P : Program} {E : Env} {w0 : World} {ok O : Nat → Prop} {σ σ' : St} {tm : Array Value} {w w' : World} {M M' : Map} {a : Act}

theorem zfj (j i:Nat) (s:SV):(s.lsRef j i).isSt=s.isSt∧(s.lsRef j i).count=s.count∧(s.lsRef j i).isCh=s.isCh∧(∀ k∈(s.lsRef j i).roots,k∈s.roots∨(k=i∧j∈s.boxes))∧∀ k∈(s.lsRef j i).boxes,k∈s.boxes∧k≠j:=by
 induction s with
 | st s ih=>exact ⟨rfl,rfl,rfl,ih.2.2.2.1,ih.2.2.2.2⟩
 | tup s ih=>exact ⟨rfl,rfl,rfl,ih.2.2.2.1,ih.2.2.2.2⟩
 | clo g s ih=>exact ⟨rfl,rfl,rfl,ih.2.2.2.1,ih.2.2.2.2⟩
 | pr a b iha ihb =>
  refine ⟨rfl,rfl,rfl,fun k hk=>?_,fun k hk=>?_⟩
  ·simp only [SV.lsRef,SV.roots,SV.boxes,List.mem_append] at hk ⊢
   rcases hk with hk | hk
   ·exact (iha.2.2.2.1 k hk).elim (fun h=>.inl (.inl h)) fun h=>.inr ⟨h.1,.inl h.2⟩
   ·exact (ihb.2.2.2.1 k hk).elim (fun h=>.inl (.inr h)) fun h=>.inr ⟨h.1,.inr h.2⟩
  ·simp only [SV.lsRef,SV.boxes,List.mem_append] at hk ⊢
   rcases hk with hk | hk
   ·exact ⟨.inl (iha.2.2.2.2 k hk).1,(iha.2.2.2.2 k hk).2⟩
   ·exact ⟨.inr (ihb.2.2.2.2 k hk).1,(ihb.2.2.2.2 k hk).2⟩
 | cns a b iha ihb =>
  refine ⟨rfl,by simp [SV.lsRef,SV.count,ihb.2.1],rfl,fun k hk=>?_,fun k hk=>?_⟩
  ·simp only [SV.lsRef,SV.roots,SV.boxes,List.mem_append] at hk ⊢
   rcases hk with hk | hk
   ·exact (iha.2.2.2.1 k hk).elim (fun h=>.inl (.inl h)) fun h=>.inr ⟨h.1,.inl h.2⟩
   ·exact (ihb.2.2.2.1 k hk).elim (fun h=>.inl (.inr h)) fun h=>.inr ⟨h.1,.inr h.2⟩
  ·simp only [SV.lsRef,SV.boxes,List.mem_append] at hk ⊢
   rcases hk with hk | hk
   ·exact ⟨.inl (iha.2.2.2.2 k hk).1,(iha.2.2.2.2 k hk).2⟩
   ·exact ⟨.inr (ihb.2.2.2.2 k hk).1,(ihb.2.2.2.2 k hk).2⟩
 | ls k =>
  simp only [SV.lsRef]
  cases h:Nat.beq j k
  ·refine ⟨rfl,rfl,rfl,by simp [SV.roots],fun q hq=>?_⟩
   simp only [cond_false,SV.boxes,List.mem_singleton] at hq ⊢
   subst hq
   exact ⟨rfl,fun e=>z48 h e.symm⟩
  ·have:=Nat.eq_of_beq_eq_true h
   subst this
   exact ⟨rfl,rfl,rfl,by simp [SV.roots,SV.boxes],by simp [SV.boxes]⟩
 | lp k n =>
  simp only [SV.lsRef]
  cases h:Nat.beq j k
  ·refine ⟨rfl,rfl,rfl,by simp [SV.roots],fun q hq=>?_⟩
   simp only [cond_false,SV.boxes,List.mem_singleton] at hq ⊢
   subst hq
   exact ⟨rfl,fun e=>z48 h e.symm⟩
  ·exact ⟨rfl,rfl,rfl,by simp [SV.roots],by simp [SV.boxes]⟩
 | bp k p o =>
  simp only [SV.lsRef]
  cases h:Nat.beq j k
  ·refine ⟨rfl,rfl,rfl,by simp [SV.roots],fun q hq=>?_⟩
   simp only [cond_false,SV.boxes,List.mem_singleton] at hq ⊢
   subst hq
   exact ⟨rfl,fun e=>z48 h e.symm⟩
  ·exact ⟨rfl,rfl,rfl,by simp [SV.roots],by simp [SV.boxes]⟩
 | _=>exact ⟨rfl,rfl,rfl,fun k hk=>.inl hk,fun k hk=>absurd hk (by simp [SV.lsRef,SV.boxes])⟩
structure Turned (M M':Map) (j i:Nat):Prop where
 loc:∀ k,k≠i→M'.loc k=M.loc k
 blk:∀ k,M'.blk k=M.blk k∧M'.bn k=M.bn k∧M'.bw k=M.bw k
 row:∃ e t,∃ l:L (.sl e t),M'.loc i=⟨.sl e t,l⟩∧l.1=some (M.blk j)∧l.2.1=M.bn j∧l.2.2.length=M.bn j
theorem z3u {j i:Nat} (H:Turned M M' j i):∀ {s:SV} {cs:List Value},(∀ k∈s.roots,k≠i)→za w0 ok M s cs→za w0 ok M' (s.lsRef j i) cs
 | .val t x,cs,_,h=>h
 | .ref k p,cs,hr,h=>by
  obtain ⟨e,t,l,h1,h2⟩:=h
  exact ⟨e,t,l,by rw [H.loc k (hr k (by simp [SV.roots]))]; exact h1,h2⟩
 | .vw k lo n,cs,hr,h=>by
  obtain ⟨e,t,l,h1,h2⟩:=h
  exact ⟨e,t,l,by rw [H.loc k (hr k (by simp [SV.roots]))]; exact h1,h2⟩
 | .ls k,cs,hr,h=>by
  simp only [za] at h
  subst h
  simp only [SV.lsRef]
  cases hb:Nat.beq j k
  ·show [_]=[_]
   rw [(H.blk k).1,(H.blk k).2.1]
  ·have:=Nat.eq_of_beq_eq_true hb
   subst this
   obtain ⟨e,t,l,h1,h2,h3,h4⟩:=H.row
   refine ⟨e,t,l,(congrArg (fun z:Loc=>zr z.1 z.2 []) h1).trans rfl,?_⟩
   simp only [z8,h2,h3,h4,Option.map_some]
 | .st s,cs,hr,h=>z3u H (s:=s) hr h
 | .pr a b,cs,hr,h=>by
  obtain ⟨c1,c2,rfl,h1,h2⟩:=h
  exact ⟨c1,c2,rfl,z3u H (fun k hk=>hr k (by simp [SV.roots,hk])) h1,z3u H (fun k hk=>hr k (by simp [SV.roots,hk])) h2⟩
 | .bp k p o,cs,hr,h=>by
  simp only [za] at h
  subst h
  simp only [SV.lsRef]
  cases hb:Nat.beq j k
  ·show [_]=[_]
   rw [(H.blk k).1]
  ·exact ⟨_,rfl,rfl⟩
 | .ep k p n f o,cs,hr,h=>by
  obtain ⟨e,t,l,g,h1,h2⟩:=h
  exact ⟨e,t,l,g,by rw [H.loc k (hr k (by simp [SV.roots]))]; exact h1,h2⟩
 | .lp k n,cs,hr,h=>by
  obtain ⟨h1,rfl⟩:=h
  simp only [SV.lsRef]
  cases hb:Nat.beq j k
  ·refine ⟨by rw [(H.blk k).2.1]; exact h1,?_⟩
   rw [(H.blk k).1,(H.blk k).2.2]
  ·exact ⟨_,rfl,rfl⟩
 | .clo g c,cs,hr,h=>by
  obtain ⟨caps,rfl,h1⟩:=h
  exact ⟨caps,rfl,z3u H (s:=c) hr h1⟩
 | .no,cs,hr,h=>h
 | .er _,cs,hr,h=>h
 | .un,cs,hr,h=>h
 | .tup _,_,_,h=>h.elim
 | .cns _ _,_,_,h=>h.elim
 | .nl,_,_,h=>h.elim
theorem zwl {j i:Nat} (H:Turned M M' j i) {s:SV}:∀ {cs:List Value},(∀ k∈s.roots,k≠i)→z1e w0 ok M s cs→z1e w0 ok M' (s.lsRef j i) cs:=by
 induction s with
 | cns a b iha ihb =>
  intro cs hr h
  obtain ⟨c1,c2,rfl,h1,h2⟩:=h
  exact ⟨c1,c2,rfl,z3u H (fun k hk=>hr k (by simp [SV.roots,hk])) h1,ihb (fun k hk=>hr k (by simp [SV.roots,hk])) h2⟩
 | nl=>intro cs hr h; exact h
 | tup s _=>intro cs hr h; exact h.elim
 | ls k=>intro cs hr h; exact zu (z3u H (s:=.ls k) hr h)
 | val t x=>intro cs hr h; exact zu (z3u H (s:=.val t x) hr h)
 | ref k p=>intro cs hr h; exact zu (z3u H (s:=.ref k p) hr h)
 | vw k a b=>intro cs hr h; exact zu (z3u H (s:=.vw k a b) hr h)
 | st s _=>intro cs hr h; exact zu (z3u H (s:=.st s) hr h)
 | pr a b _ _=>intro cs hr h; exact zu (z3u H (s:=.pr a b) hr h)
 | bp k p o=>intro cs hr h; exact zu (z3u H (s:=.bp k p o) hr h)
 | ep k p n f o=>intro cs hr h; exact zu (z3u H (s:=.ep k p n f o) hr h)
 | lp k n=>intro cs hr h; exact zu (z3u H (s:=.lp k n) hr h)
 | clo g s _=>intro cs hr h; exact zu (z3u H (s:=.clo g s) hr h)
 | no=>intro cs hr h; exact h
 | er b=>intro cs hr h; exact h
 | un=>intro cs hr h; exact h
theorem zwm {j i:Nat} (H:Turned M M' j i) {s:SV}:∀ {vs:List Value},(∀ k∈s.roots,k≠i)→z2d w0 ok M s vs→z2d w0 ok M' (s.lsRef j i) vs:=by
 induction s with
 | cns a b iha ihb =>
  intro vs hr h
  obtain ⟨v,vs',rfl,⟨cs,h1,h3⟩,h2⟩:=h
  exact ⟨v,vs',rfl,⟨cs,z3u H (fun k hk=>hr k (by simp [SV.roots,hk])) h1,by rw [(zfj j i a).1]; exact h3⟩,ihb (fun k hk=>hr k (by simp [SV.roots,hk])) h2⟩
 | nl=>intro vs hr h; exact h
 | _=>intro vs hr h; exact h.elim
theorem zwn {j i:Nat} (H:Turned M M' j i) {s:SV} {v:Value} (hr:∀ k∈s.roots,k≠i) (h:zi w0 ok M s v):zi w0 ok M' (s.lsRef j i) v:=by
 rcases z34 h with rfl | ⟨c,vs,rfl,rfl,h1⟩ | ⟨cs,h1,h2⟩
 ·trivial
 ·exact ⟨vs,rfl,zwm H hr h1⟩
 ·refine z1m (z3u H hr h1) ?_
  unfold z2h
  rw [(zfj j i s).1]
  exact h2
theorem Rep.recontent (R:Rep E w0 ok O σ tm w M) {sl:List (Nat×SV)} {bx:List (Nat×Bx)} (hs:∀ s v,lk sl s=some v→(∃ u,tm[s]?=some u∧zi w0 ok M v u)∧Live ⟨sl,σ.rows,bx⟩ v)
  (hb:∀ i b,lk bx i=some b→(∃ b0,lk σ.bx i=some b0)∧(∃ cs,z1e w0 ok M b.c cs∧w.heap[M.blk i]?=some (.cells cs.toArray b.ty (0,0))∧(b.c.isCh=true→M.bn i=b.c.count∧M.bw i=(E.tyOf b.ty).sz∧b.c.count≤16777216))∧Live ⟨sl,σ.rows,bx⟩ b.c):Rep E w0 ok O ⟨sl,σ.rows,bx⟩ tm w M where
 slots:=fun s v h=>(hs s v h).1
 rows:=R.rows
 boxes:=fun i b h=>(hb i b h).2.1
 rr:=R.rr
 bb:=fun i j hij ⟨b,h⟩ ⟨b',h'⟩=>R.bb i j hij (hb i b h).1 (hb j b' h').1
 rb:=fun i j hi ⟨b,h⟩=>R.rb i j hi (hb j b h).1
 ownR:=R.ownR
 ownB:=fun i ⟨b,h⟩=>R.ownB i (hb i b h).1
 okB:=R.okB
 liveS:=fun s v h=>(hs s v h).2
 liveB:=fun i b h=>(hb i b h).2.2
 kept:=R.kept
 pin:=R.pin
 pinB:=fun i hi ⟨b,h⟩=>R.pinB i hi (hb i b h).1
theorem zj5 (R:Rep E w0 ok O σ tm w M) {j:Nat} {b:Bx} (hb:lk σ.bx j=some b) (hch:b.c.isCh=true) {i:Nat} (hi:i<PIN) (hn:lk σ.rows i=none) {t:Ty} {ls:List (L t)} {cs:List Value} (hsz:t.sz=(E.tyOf b.ty).sz) (hlen:ls.length=b.c.count)
  (hcs:z1e w0 ok M b.c cs) (hw:w.heap[M.blk j]?=some (.cells cs.toArray b.ty (0,0))) (hfc:ls.flatMap (z8 t)=cs) (hh:∀ y∈ls,holds (Rd w0 ok) w t y∧plain w t y) (hbl:ls.flatMap (z6 t)=[]) :
  ∃ M',Rep E w0 ok O (σ.turn j i ⟨b.ty,t,ls.map (erase t),false⟩) tm w M':=by
 obtain ⟨cs2,h1,h2,h3⟩:=R.boxes j b hb
 obtain ⟨n1,n2,n3⟩:=h3 hch
 have hlc:cs.length=ls.length*t.sz:=by rw [← hfc,z1l]
 let l:L (.sl b.ty t):=(some (M.blk j),M.bn j,ls)
 have hbs:z6 (.sl b.ty t) l=[M.blk j]:=by simp only [l,z6,hbl,Option.toList_some,List.append_nil]
 have hholds:holds (Rd w0 ok) w (.sl b.ty t) l:=by
  refine ⟨⟨cs.toArray,(0,0),hw,?_,?_,?_,?_,.inl rfl⟩,fun y hy=>(hh y hy).1⟩
  ·simp only [l,hlen,n1]; exact Nat.le_refl _
  ·simp only [l,n1,maxLen]; omega
  ·simp only [l,n1,List.size_toArray,hlc,hlen]; exact Nat.le_refl _
  ·simp only [l]
   rw [← hlc,List.take_length,hfc]
 have hplain:plain w (.sl b.ty t) l:=by
  refine ⟨fun q hq=>?_,fun y hy=>(hh y hy).2⟩
  cases hq
  exact ⟨_,_,hw,by simp only [l,List.size_toArray,hlc,hlen,n1]⟩
 have hdropno:lk (σ.dropB j).rows i=none:=hn
 have hfree:Free w0 ok O (σ.dropB j) M (z6 (.sl b.ty t) l):=by
  rw [hbs]
  refine ⟨by simp,fun k hk=>?_,fun i' hi' k hk hk2=>?_,fun i' hi' hk=>?_⟩
  ·simp only [List.mem_singleton] at hk; subst hk; exact R.ownB j ⟨b,hb⟩
  ·simp only [List.mem_singleton] at hk; subst hk; exact R.rb i' j hi' ⟨b,hb⟩ hk2
  ·simp only [List.mem_singleton] at hk
   have hne:=zfc hi'
   obtain ⟨b1,hb1⟩:=hi'
   exact R.bb i' j hne ((Sub.dropB σ j).bx i' b1 hb1) ⟨b,hb⟩ hk
 have R2:=(R.dropB j).addOwn i hi l hholds hplain hfree
 have hT:Turned M (z1g M i ⟨.sl b.ty t,l⟩) j i:=⟨fun k hk=>z35 _ _ hk,fun k=>⟨rfl,rfl,rfl⟩,⟨b.ty,t,l,z1n _ _ _,rfl,rfl,by rw [n1]; exact hlen⟩⟩
 have hrows:((σ.dropB j).addRow i ⟨b.ty,t,erase (.sl b.ty t) l,false⟩).rows=(i,(⟨b.ty,t,ls.map (erase t),false⟩:Row))::σ.rows:=by
  unfold St.addRow
  simp only [hdropno]
  rfl
 have hbx:((σ.dropB j).addRow i ⟨b.ty,t,erase (.sl b.ty t) l,false⟩).bx=zw (fun b:Bx=>(⟨b.ty,b.c.killB j⟩:Bx)) (rm σ.bx j):=by
  unfold St.addRow
  simp only [hdropno]
  rfl
 have rootsNe:∀ u,Live σ u→∀ k∈u.roots,k≠i:=fun u hu k hk e=>by
  obtain ⟨r,hr⟩:=hu.rows k hk
  rw [e,hn] at hr; cases hr
 have lkb:∀ k b',lk (zw (fun b:Bx=>(⟨b.ty,b.c.lsRef j i⟩:Bx)) (rm σ.bx j)) k=some b'→k≠j∧∃ b0,lk σ.bx k=some b0∧b'=⟨b0.ty,b0.c.lsRef j i⟩:=by
  intro k b' h
  rw [z24,z4z] at h
  obtain ⟨b0,h0,rfl⟩:=Option.map_eq_some_iff.1 h
  split at h0
  ·cases h0
  ·rename_i hne; exact ⟨fun e=>hne e.symm,b0,h0,rfl⟩
 have live:∀ u,Live σ u→Live ⟨zw (SV.lsRef j i) σ.sl,((σ.dropB j).addRow i ⟨b.ty,t,erase (.sl b.ty t) l,false⟩).rows,zw (fun b:Bx=>(⟨b.ty,b.c.lsRef j i⟩:Bx)) (rm σ.bx j)⟩ (u.lsRef j i):=by
  intro u hu
  obtain ⟨_,_,_,g4,g5⟩:=zfj j i u
  refine ⟨fun k hk=>?_,fun k hk=>?_⟩
  ·show ∃ r,lk (St.addRow _ _ _).rows k=some r
   rw [hrows,zn]
   rcases g4 k hk with h | ⟨rfl,_⟩
   ·split
    ·exact ⟨_,rfl⟩
    ·exact hu.rows k h
   ·rw [if_pos rfl]; exact ⟨_,rfl⟩
  ·obtain ⟨h1,h2⟩:=g5 k hk
   obtain ⟨b0,h0⟩:=hu.boxes k h1
   exact ⟨_,by show lk (zw _ (rm σ.bx j)) k=_; rw [z24,z4z,if_neg (fun e=>h2 e.symm),h0]; rfl⟩
 have hst:σ.turn j i ⟨b.ty,t,ls.map (erase t),false⟩=⟨zw (SV.lsRef j i) σ.sl,((σ.dropB j).addRow i ⟨b.ty,t,erase (.sl b.ty t) l,false⟩).rows,zw (fun b:Bx=>(⟨b.ty,b.c.lsRef j i⟩:Bx)) (rm σ.bx j)⟩:=by
  unfold St.turn
  rw [hrows]
 rw [hst]
 refine ⟨_,R2.recontent (fun s v h=>?_) (fun k b' h=>?_)⟩
 ·rw [z24] at h
  obtain ⟨u,hu,rfl⟩:=Option.map_eq_some_iff.1 h
  obtain ⟨z,z1,z2⟩:=R.slots s u hu
  exact ⟨⟨z,z1,zwn hT (rootsNe u (R.liveS s u hu)) z2⟩,live u (R.liveS s u hu)⟩
 ·obtain ⟨hne,b0,h0,rfl⟩:=lkb k b' h
  obtain ⟨cs',q1,q2,q3⟩:=R.boxes k b0 h0
  obtain ⟨_,f2,f3,_,_⟩:=zfj j i b0.c
  refine ⟨⟨⟨b0.ty,b0.c.killB j⟩,by rw [hbx,z24,z4z,if_neg (fun e=>hne e.symm),h0]; rfl⟩,⟨cs',zwl hT (rootsNe b0.c (R.liveB k b0 h0)) q1,q2,fun hc=>?_⟩,live b0.c (R.liveB k b0 h0)⟩
  rw [f3] at hc
  rw [f2]
  exact q3 hc
theorem zwo {R0:Type} {res:R0} {j:Nat} {k:St→Option R0} (R:Rep E w0 ok O σ tm w M) (h:zi9 E σ j k=some res) :
  ∃ w1 ok1 O1 σ' M',Chg E w0 ok O w1 ok1 O1∧k σ'=some res∧Rep E w1 ok1 O1 σ' tm w M':=by
 unfold zi9 at h
 split at h
 ·rename_i b hb
  cases hk:(E.rdm&&(b.c.isCh&&Nat.blt (z4u j) PIN)) <;> rw [hk] at h
  ·exact ⟨w0,ok,O,σ,M,.refl,h,R⟩
  ·simp only [Bool.and_eq_true] at hk
   obtain ⟨k1,k2,k3⟩:=hk
   simp only [cond_true] at h
   obtain ⟨cs,b1,b2,b3⟩:=R.boxes j b hb
   obtain ⟨σ1,ls,ok1,O1,B,g1,g2,g3,g4,g5,g6⟩:=zj1 (zb0 depth) (E.tyOf b.ty).strip R b1 h
   split at g1
   ·rename_i b' hb'
    cases hq:(Nat.beq b'.ty b.ty&&(b'.c.isCh&&(Nat.beq b'.c.count b.c.count&&zi8 σ1 (z4u j)))) <;> rw [hq] at g1
    ·cases g1
    ·simp only [Bool.and_eq_true] at hq
     obtain ⟨q1,q2,q3,q4⟩:=hq
     have q1:=Nat.eq_of_beq_eq_true q1
     have q3:=Nat.eq_of_beq_eq_true q3
     simp only [cond_true] at g1
     have hn:lk σ1.rows (z4u j)=none:=by
      unfold zi8 at q4
      split at q4
      ·assumption
      ·cases q4
     obtain ⟨cs',c1,c2,c3⟩:=g6.boxes j b' hb'
     have hcc:cs'=cs:=by
      rw [b2] at c2
      injection c2 with c2
      injection c2 with c4 _ _
      have:=congrArg Array.toList c4
      simpa using this.symm
     subst hcc
     obtain ⟨M',R'⟩:=zj5 g6 hb' q2 (Nat.le_of_ble_eq_true k3) hn (t:=.rd (E.tyOf b.ty).strip) (ls:=ls) (by rw [q1]; exact z61 _) (by rw [g4,q3]) c1 c2 g3 (fun y hy=>⟨g2 y hy,trivial⟩) (List.flatMap_eq_nil_iff.2 fun y _=>rfl)
     rw [q1] at R'
     exact ⟨w,ok1,O1,_,M',.inr ⟨k1,B⟩,g1,R'⟩
   ·cases g1
 ·exact ⟨w0,ok,O,σ,M,.refl,h,R⟩
end

section
variable {P : Program} {E : Env} {w0 : World} {ok O : Nat → Prop} {σ σ' : St} {tm : Array Value} {w w' : World} {M : Map} {a : Act}

theorem znh {e:TypeId} {t:Ty} {l:L (.sl e t)} {p:List Step} {x:Loc} (hp:ixs p≤0) (h:zr (.sl e t) l p=some x):p=[]:=by
 match p with
 | []=>rfl
 | .f _::_=>cases h
 | .u::_=>cases h
 | .ix _::_=>simp [ixs] at hp
structure RetHd (e:TypeId) (t t':Ty) (l:L (.sl e t)) (l':L (.sl e t')):Prop where
 blk:l'.1=l.1
 cap:l'.2.1=l.2.1
 len:l'.2.2.length=l.2.2.length
 sz:t'.sz=t.sz
theorem z8g {j:Nat} {e:TypeId} {t t':Ty} {l:L (.sl e t)} {l':L (.sl e t')} (hl:M.loc j=⟨.sl e t,l⟩) (H:RetHd e t t' l l'):∀ {s:SV} {cs:List Value},(∀ p∈s.paths j,ixs p≤0)→za w0 ok M s cs→za w0 ok (z1g M j ⟨.sl e t',l'⟩) s cs
 | .val t x,cs,h,hs=>hs
 | .ref i p,cs,h,hs=>by
  by_cases hi:i=j
  ·subst hi
   obtain ⟨e1,t1,l1,h1,rfl⟩:=hs
   rw [hl] at h1
   have hp:=znh (h p (by simp [SV.paths])) h1
   subst hp
   rw [z2y] at h1
   cases h1
   exact ⟨e,t',l',(congrArg (fun z:Loc=>zr z.1 z.2 []) (z1n M.loc i ⟨.sl e t',l'⟩)).trans (z2y _ _),by simp [z8,H.blk,H.cap,H.len]⟩
  ·have:(z1g M j ⟨.sl e t',l'⟩).loc i=M.loc i:=z35 _ _ hi
   simp only [za] at hs ⊢
   rw [this]; exact hs
 | .vw i lo n,cs,h,hs=>by
  by_cases hi:i=j
  ·subst hi
   obtain ⟨e1,t1,l1,h1,h2,A,c,rfl,h3,h4⟩:=hs
   rw [hl] at h1
   cases h1
   exact ⟨e,t',l',z1n _ _ _,by rw [H.len]; exact h2,A,c,rfl,by rw [H.cap]; exact h3,fun hh=>by rw [H.blk,H.sz]; exact h4 hh⟩
  ·have:(z1g M j ⟨.sl e t',l'⟩).loc i=M.loc i:=z35 _ _ hi
   simp only [za] at hs ⊢
   rw [this]; exact hs
 | .ls i,cs,h,hs=>hs
 | .st s,cs,h,hs=>z8g hl H (s:=s) h hs
 | .pr a b,cs,h,hs=>by
  obtain ⟨c1,c2,rfl,h1,h2⟩:=hs
  exact ⟨c1,c2,rfl,z8g hl H (fun p hp=>h p (by simp [SV.paths,hp])) h1,z8g hl H (fun p hp=>h p (by simp [SV.paths,hp])) h2⟩
 | .bp i p o,cs,h,hs=>hs
 | .ep i p n f o,cs,h,hs=>by
  by_cases hi:i=j
  ·subst hi
   obtain ⟨e1,t1,l1,g,h1,h6,h7,rfl⟩:=hs
   rw [hl] at h1
   have hp:=znh (h p (by simp [SV.paths])) h1
   subst hp
   rw [z2y] at h1
   cases h1
   exact ⟨e,t',l',g,(congrArg (fun z:Loc=>zr z.1 z.2 []) (z1n M.loc i ⟨.sl e t',l'⟩)).trans (z2y _ _),by rw [H.blk]; exact h6,by rw [H.len]; exact h7,by rw [H.sz]⟩
  ·have:(z1g M j ⟨.sl e t',l'⟩).loc i=M.loc i:=z35 _ _ hi
   simp only [za] at hs ⊢
   rw [this]; exact hs
 | .lp i n,cs,h,hs=>hs
 | .clo g c,cs,h,hs=>by
  obtain ⟨caps,rfl,h1⟩:=hs
  exact ⟨caps,rfl,z8g hl H (s:=c) h h1⟩
 | .no,cs,h,hs=>hs
 | .er _,cs,h,hs=>hs
 | .un,cs,h,hs=>hs
 | .tup _,_,_,h=>h.elim
 | .cns _ _,_,_,h=>h.elim
 | .nl,_,_,h=>h.elim
theorem zwp {j:Nat} {e:TypeId} {t t':Ty} {l:L (.sl e t)} {l':L (.sl e t')} (hl:M.loc j=⟨.sl e t,l⟩) (H:RetHd e t t' l l') {s:SV}:∀ {cs:List Value},(∀ p∈s.paths j,ixs p≤0)→z1e w0 ok M s cs→z1e w0 ok (z1g M j ⟨.sl e t',l'⟩) s cs:=by
 induction s with
 | cns a b iha ihb =>
  intro cs h hs
  obtain ⟨c1,c2,rfl,h1,h2⟩:=hs
  exact ⟨c1,c2,rfl,z8g hl H (fun p hp=>h p (by simp [SV.paths,hp])) h1,ihb (fun p hp=>h p (by simp [SV.paths,hp])) h2⟩
 | nl=>intro cs h hs; exact hs
 | _=>intro cs h hs; exact z8g hl H h hs
theorem zwq {j:Nat} {e:TypeId} {t t':Ty} {l:L (.sl e t)} {l':L (.sl e t')} (hl:M.loc j=⟨.sl e t,l⟩) (H:RetHd e t t' l l') {s:SV}:∀ {vs:List Value},(∀ p∈s.paths j,ixs p≤0)→z2d w0 ok M s vs→z2d w0 ok (z1g M j ⟨.sl e t',l'⟩) s vs:=by
 induction s with
 | cns a b iha ihb =>
  intro vs h hs
  obtain ⟨v,vs',rfl,⟨cs,h1,h3⟩,h2⟩:=hs
  exact ⟨v,vs',rfl,⟨cs,z8g hl H (fun p hp=>h p (by simp [SV.paths,hp])) h1,h3⟩,ihb (fun p hp=>h p (by simp [SV.paths,hp])) h2⟩
 | nl=>intro cs h hs; exact hs
 | _=>intro vs h hs; exact hs.elim
theorem zwr {j:Nat} {e:TypeId} {t t':Ty} {l:L (.sl e t)} {l':L (.sl e t')} (hl:M.loc j=⟨.sl e t,l⟩) (H:RetHd e t t' l l') {s:SV} {v:Value} (h:∀ p∈s.paths j,ixs p≤0) (hs:zi w0 ok M s v):zi w0 ok (z1g M j ⟨.sl e t',l'⟩) s v:=by
 rcases z34 hs with rfl | ⟨c,vs,rfl,rfl,h1⟩ | ⟨cs,h1,h2⟩
 ·trivial
 ·exact ⟨vs,rfl,zwq hl H h h1⟩
 ·exact z1m (z8g hl H h h1) h2

theorem zws {R0:Type} {res:R0} (R:Rep E w0 ok O σ tm w M) {j:Nat} {k:St→Option R0} (h:zia E σ j k=some res) :
  ∃ w1 ok1 O1 σ' M',Chg E w0 ok O w1 ok1 O1∧k σ'=some res∧Rep E w1 ok1 O1 σ' tm w M':=by
 unfold zia at h
 split at h
 ·rename_i e e2 u xs hr
  cases hb:(u.flat&&E.rdm) <;> rw [hb] at h
  ·cases h
  simp only [Bool.and_eq_true] at hb
  simp only [cond_true] at h
  obtain ⟨R1,kS,kB⟩:=R.killIn j 0
  have hr1:lk (σ.killIn j 0).rows j=some ⟨e,.sl e2 u,xs,false⟩:=hr
  obtain ⟨l,hl,hel,hh,hnd,hpl⟩:∃ l:L (.sl e (.sl e2 u)),M.loc j=⟨.sl e (.sl e2 u),l⟩∧erase (.sl e (.sl e2 u)) l=xs∧holds (Rd w0 ok) w (.sl e (.sl e2 u)) l∧(z6 (.sl e (.sl e2 u)) l).Nodup∧plain w (.sl e (.sl e2 u)) l:=by
   obtain ⟨l,a1,a2,a3,a4,a5⟩:=R.rows j _ hr
   exact ⟨l,a1,a2,a3,a4,a5 rfl⟩
  -- the blocks that become only read
  obtain ⟨bs,hbs⟩:∃ bs,bs=l.2.2.flatMap (z6 (.sl e2 u)):=⟨_,rfl⟩
  have hbl:z6 (.sl e (.sl e2 u)) l=l.1.toList++bs:=by rw [hbs]; rfl
  have hin:∀ k∈bs,k∈z6 (.sl e (.sl e2 u)) l:=fun k hk=>by rw [hbl]; exact List.mem_append.2 (.inr hk)
  have hj:∃ r,lk (σ.killIn j 0).rows j=some r:=⟨_,hr1⟩
  have own:∀ k∈bs,¬ ok k∧(O k∨w0.heap.size≤k):=fun k hk=>R1.ownR j hj k (by rw [hl]; exact hin k hk)
  have B:Based w0 ok O w (fun k=>ok k∨k∈bs) (fun k=>(O k∨w0.heap.size≤k)∧k∉bs) :=
   ⟨R.kept,fun k h=>.inl h,R.okB,fun k h=>h.1,fun k h=>h.elim .inl fun hk=>.inr (own k hk).2⟩
  have H:∀ (t:Ty) (x:t.T) (cs:List Value),Rd w0 ok t x cs→Rd w (fun k=>ok k∨k∈bs) t x cs:=fun _ _ _ h=>B.rd h
  -- the elements, only read
  have hex:∀ ys:List (L (.sl e2 u)),(∀ y∈ys,y∈l.2.2)→∃ zs:List (L (.rd (.sl e2 u))),zs.flatMap (z8 (.rd (.sl e2 u)))=ys.flatMap (z8 (.sl e2 u))∧zs.map (erase (.rd (.sl e2 u)))=ys.map (erase (.sl e2 u))∧zs.length=ys.length∧∀ z∈zs,Rd w (fun k=>ok k∨k∈bs) (.sl e2 u) z.1.1 z.1.2:=by
   intro ys
   induction ys with
   | nil=>intro _; exact ⟨[],rfl,rfl,rfl,by simp⟩
   | cons y ys ih =>
    intro hy
    obtain ⟨zs,h1,h2,h3,h4⟩:=ih (fun z hz=>hy z (List.mem_cons_of_mem _ hz))
    have hym:=hy y (by simp)
    have hrd:=z6f (F:=Rd w0 ok) H (fun k hk=>.inr (by rw [hbs]; exact List.mem_flatMap.2 ⟨y,hym,hk⟩)) (hh.2 y hym)
    refine ⟨rdL hrd::zs,?_,?_,by simp [h3],?_⟩
    ·rw [List.flatMap_cons,List.flatMap_cons,h1]; rfl
    ·rw [List.map_cons,List.map_cons,h2]; rfl
    ·intro z hz
     rcases List.mem_cons.1 hz with rfl | hz
     ·exact hrd
     ·exact h4 z hz
  obtain ⟨zs,z1,z2,z3,z4⟩:=hex l.2.2 (fun _ h=>h)
  have S:RetHd e (.sl e2 u) (.rd (.sl e2 u)) l (l.1,l.2.1,zs):=⟨rfl,rfl,z3,rfl⟩
  have hnb:z6 (.sl e (.rd (.sl e2 u))) (l.1,l.2.1,zs)=l.1.toList:=by
   have:zs.flatMap (z6 (.rd (.sl e2 u)))=[]:=List.flatMap_eq_nil_iff.2 fun z _=>rfl
   show l.1.toList++zs.flatMap (z6 (.rd (.sl e2 u)))=_
   rw [this,List.append_nil]
  have hsame:(z1g M j ⟨.sl e (.rd (.sl e2 u)),(l.1,l.2.1,zs)⟩).loc j=⟨.sl e (.rd (.sl e2 u)),(l.1,l.2.1,zs)⟩:=z1n _ _ _
  have hother:∀ i,i≠j→(z1g M j ⟨.sl e (.rd (.sl e2 u)),(l.1,l.2.1,zs)⟩).loc i=M.loc i:=fun i hi=>z35 _ _ hi
  have hrows:∀ i r,lk ((σ.killIn j 0).setRow j ⟨e,.rd (.sl e2 u),xs,false⟩).rows i=some r→(i=j∧r=⟨e,.rd (.sl e2 u),xs,false⟩)∨(i≠j∧lk (σ.killIn j 0).rows i=some r):=by
   intro i r h
   have h:lk (up (σ.killIn j 0).rows j _) i=some r:=h
   rw [z6o] at h
   split at h
   ·rename_i hi; subst hi; rw [hr1] at h; cases h; exact .inl ⟨rfl,rfl⟩
   ·rename_i hi; exact .inr ⟨fun e=>hi e.symm,h⟩
  have hbr:∀ i,(∃ r,lk ((σ.killIn j 0).setRow j ⟨e,.rd (.sl e2 u),xs,false⟩).rows i=some r)→∃ r,lk (σ.killIn j 0).rows i=some r:=by
   rintro i ⟨r,h⟩
   rcases hrows i r h with ⟨rfl,_⟩ | ⟨_,h⟩
   ·exact hj
   ·exact ⟨r,h⟩
  have hfr:∀ i,(∃ r,lk (σ.killIn j 0).rows i=some r)→∃ r,lk ((σ.killIn j 0).setRow j ⟨e,.rd (.sl e2 u),xs,false⟩).rows i=some r:=by
   rintro i ⟨r,h⟩
   show ∃ r,lk (up (σ.killIn j 0).rows j _) i=some r
   rw [z6o]
   split
   ·rw [h]; exact ⟨_,rfl⟩
   ·exact ⟨r,h⟩
  have hsub:∀ i,∀ k∈z6 ((z1g M j ⟨.sl e (.rd (.sl e2 u)),(l.1,l.2.1,zs)⟩).loc i).1 ((z1g M j ⟨.sl e (.rd (.sl e2 u)),(l.1,l.2.1,zs)⟩).loc i).2,k∈z6 (M.loc i).1 (M.loc i).2:=by
   intro i k hk
   by_cases hi:i=j
   ·subst hi
    rw [hsame] at hk
    have hk:k∈z6 (.sl e (.rd (.sl e2 u))) (l.1,l.2.1,zs):=hk
    rw [hnb] at hk
    rw [hl]
    exact List.mem_append.2 (.inl hk)
   ·rw [hother i hi] at hk; exact hk
  have hnbs:∀ i,(∃ r,lk (σ.killIn j 0).rows i=some r)→∀ k∈z6 ((z1g M j ⟨.sl e (.rd (.sl e2 u)),(l.1,l.2.1,zs)⟩).loc i).1 ((z1g M j ⟨.sl e (.rd (.sl e2 u)),(l.1,l.2.1,zs)⟩).loc i).2,k∉bs:=by
   intro i hi k hk hb
   by_cases hij:i=j
   ·subst hij
    rw [hsame] at hk
    have hk:k∈z6 (.sl e (.rd (.sl e2 u))) (l.1,l.2.1,zs):=hk
    rw [hnb] at hk
    rw [hbl] at hnd
    exact (List.nodup_append.1 hnd).2.2 k hk k hb rfl
   ·rw [hother i hij] at hk
    exact R1.rr i j hij hi hj k hk (by rw [hl]; exact hin k hb)
  refine ⟨w,_,_,_,z1g M j ⟨.sl e (.rd (.sl e2 u)),(l.1,l.2.1,zs)⟩,.inr ⟨hb.2,B⟩,h,?_⟩
  constructor
  ·intro s v hs
   obtain ⟨z,h1,h2⟩:=R1.slots s v hs
   exact ⟨z,h1,zwr hl S (kS s v hs) (zda H h2)⟩
  ·intro i r hi
   rcases hrows i r hi with ⟨rfl,rfl⟩ | ⟨hne,hi⟩
   ·refine ⟨(l.1,l.2.1,zs),hsame,?_,⟨?_,fun z hz=>z4 z hz⟩,?_,fun _=>⟨?_,fun z hz=>trivial⟩⟩
    ·show zs.map (erase (.rd (.sl e2 u)))=xs
     rw [z2,← hel]; rfl
    ·have h1:=hh.1
     simp only [] at h1 ⊢
     cases hg:l.1 with
     | none =>
      rw [hg] at h1
      simp only [] at h1 ⊢
      refine ⟨List.length_eq_zero_iff.1 (by rw [z3,h1.1]; rfl),h1.2⟩
     | some g =>
      rw [hg] at h1
      obtain ⟨cur,fz,c1,c2,c3,c4,c5,c6⟩:=h1
      exact ⟨cur,fz,c1,by rw [z3]; exact c2,c3,c4,by rw [z1,z3]; exact c5,by rw [z3]; exact c6⟩
    ·show (z6 (.sl e (.rd (.sl e2 u))) (l.1,l.2.1,zs)).Nodup
     rw [hnb]
     cases l.1 <;> simp
    ·exact hpl.1
   ·obtain ⟨l2,h1,h2,h3,h4⟩:=R1.rows i r hi
    exact ⟨l2,(hother i hne).trans h1,h2,z5v H h3,h4⟩
  ·intro i b hi
   obtain ⟨cs,h1,h2⟩:=R1.boxes i b hi
   exact ⟨cs,zwp hl S (kB i b hi) (zaz H h1),h2⟩
  ·intro i i' hne hi hi' k hk hk'
   exact R1.rr i i' hne (hbr i hi) (hbr i' hi') k (hsub i k hk) (hsub i' k hk')
  ·exact R1.bb
  ·intro i i' hi hi' hk
   exact R1.rb i i' (hbr i hi) hi' (hsub i _ hk)
  ·intro i hi k hk
   have h1:=R1.ownR i (hbr i hi) k (hsub i k hk)
   have hn:=hnbs i (hbr i hi) k hk
   exact ⟨fun ho=>ho.elim h1.1 hn,.inl ⟨h1.2,hn⟩⟩
  ·intro i hi
   have h1:=R1.ownB i hi
   have hn:M.blk i∉bs:=fun hb=>R1.rb j i hj hi (by rw [hl]; exact hin _ hb)
   exact ⟨fun ho=>ho.elim h1.1 hn,.inl ⟨h1.2,hn⟩⟩
  ·rintro k (hk | hk)
   ·obtain ⟨h1,h2⟩:=R1.okB k hk
    exact ⟨Nat.lt_of_lt_of_le h1 R.kept.size,fun h=>h.1.elim h2 fun h=>absurd h1 (Nat.not_lt.2 h)⟩
   ·exact ⟨z1d hh k (hin k hk),fun h=>h.2 hk⟩
  ·intro s v hs
   have:=R1.liveS s v hs
   exact ⟨fun i hi=>hfr i (this.rows i hi),this.boxes⟩
  ·intro i b hi
   have:=R1.liveB i b hi
   exact ⟨fun i hi=>hfr i (this.rows i hi),this.boxes⟩
  ·exact Kept.refl _ _
  ·intro i hi hr2
   have h1:=R1.pin i hi (hbr i hr2)
   by_cases hij:i=j
   ·subst hij
    rw [hl] at h1
    rw [hsame]
    show z8 (.sl e (.rd (.sl e2 u))) (l.1,l.2.1,zs)=_
    rw [← h1]
    simp [z8,z3]
   ·rw [hother i hij]; exact h1
  ·exact R1.pinB
 ·exact ⟨w0,ok,O,σ,M,.refl,h,R⟩
theorem zb3 {R0:Type} {res:R0} {c:OC}:∀ (hs:List (Nat×SK)) (xs:List Operand) {w0:World} {ok O:Nat→Prop} {σ:St} {M:Map} {k:St→Option R0},Rep E w0 ok O σ tm w M→fzC E c hs xs σ k=some res →
  ∃ w1 ok1 O1 σ' M',Chg E w0 ok O w1 ok1 O1∧k σ'=some res∧Rep E w1 ok1 O1 σ' tm w M'
 | [],_,w0,ok,O,σ,M,k,R,h=>⟨w0,ok,O,σ,M,.refl,h,R⟩
 | hd::hs,[],w0,ok,O,σ,M,k,R,h=>⟨w0,ok,O,σ,M,.refl,h,R⟩
 | hd::hs,x::xs,w0,ok,O,σ,M,k,R,h=>by
  simp only [fzC] at h
  split at h
  ·rename_i n p
   cases hp:zll c p <;> rw [hp] at h
   ·exact zb3 hs xs R h
   ·simp only [cond_true] at h
    split at h
    ·obtain ⟨w1,ok1,O1,σ1,M1,hc,h1,R1⟩:=zws R h
     obtain ⟨w2,ok2,O2,σ2,M2,hc2,h2,R2⟩:=zb3 hs xs R1 h1
     exact ⟨w2,ok2,O2,σ2,M2,hc.trans hc2,h2,R2⟩
    ·obtain ⟨w1,ok1,O1,σ1,M1,hc,h1,R1⟩:=zwo R h
     obtain ⟨w2,ok2,O2,σ2,M2,hc2,h2,R2⟩:=zb3 hs xs R1 h1
     exact ⟨w2,ok2,O2,σ2,M2,hc.trans hc2,h2,R2⟩
    ·exact zb3 hs xs R h
  ·exact zb3 hs xs R h
end

def z2l (P:Program) (E:Env) (w0:World) (O:Nat→Prop):Prop:=∀ (w1:World) (O1:Nat→Prop),Mov w0 O w1 O1→∀ {R0:Type} {res:R0} {ok:Nat→Prop} {σ:St} {a:Act} {w:World} {M:Map} {o:Oper} {g:FuncId} {c:OC} {f:Operand} {args:Array Operand} {ts:Array TypeId} {k:St→Option R0},
 E.opn (zp o)=some (g,c)→Rep E w1 ok O1 σ a.tmps w M→o.op=.call ⟨.value f,args,ts⟩→inB o.dst a.tmps→a.defers=[]→zcl E σ (zp o) o.dst g c f args.toList ts.toList k=some res →
 ∀ {next:Act→World→Prop} {Q:Exit→Act→World→Prop},z1k E w1 ok O1 res a.tmps.size k next→o.wp P a w next Q
theorem z2l.none {P:Program} {E:Env} {w0:World} {O:Nat→Prop} (h:∀ g,E.opn g=.none):z2l P E w0 O:=fun _ _ _ _ _ _ _ _ _ _ _ _ _ _ _ _ _ hk=>by rw [h] at hk; cases hk
theorem z2l.chg {P:Program} {E:Env} {w0:World} {ok O:Nat→Prop} (K:z2l P E w0 O) {w1:World} {ok1 O1:Nat→Prop} (hc:Chg E w0 ok O w1 ok1 O1):z2l P E w1 O1:=fun _ _ m=>K _ _ (hc.mov.trans m)

theorem zwt {R:Type} {a b:Option R} {r:R} (h:zch a b=some r):a=some r∧b=some r:=by
 unfold zch at h
 split at h
 ·rename_i e; exact ⟨h,e▸h⟩
 ·cases h

section
variable {P : Program} {E : Env} {w0 : World} {ok O : Nat → Prop} {σ σ' : St} {tm : Array Value} {w w' : World} {M : Map} {a : Act}

theorem zwu {R0:Type} {res:R0} (R:Rep E w0 ok O σ a.tmps w M) (T:zb P E.ti=true) {xt yt:TypeId} {x:Operand} {k:Bool→Option R0} (h:zci E σ xt x k=some res) (op:BinOp) (hop:op=.eql∨op=.neq) :
  ∃ b,k b=some res∧(do eqGuard op xt x (.const (.slice none 0 0)) (a.eval x) (.slice none 0 0); binOp op xt (a.eval x) (.slice none 0 0):Sem Value).run P w=.ok (.bool (if op=.eql then b else !b)) w:=by
 unfold zci at h
 cases hk:E.isSl xt <;> rw [hk] at h
 ·cases h
 ·simp only [Bool.not_true,cond_false] at h
  obtain ⟨e,hu⟩:=zfg T hk
  split at h
  ·rename_i s hs
   rw [zy] at h
   obtain ⟨⟨t,xs⟩,h1,h⟩:=Option.bind_eq_some_iff.1 h
   obtain ⟨cs,hr,hw⟩:=z65 R rfl hs h1
   cases t with
   | sl e' t' =>
    simp only [] at h hr hw
    obtain ⟨A,c,rfl,hl,hx⟩:=hr
    have hv:a.eval x=.slice A (List.length xs) c:=by
     rcases hw with ⟨h5,_⟩ | ⟨_,h5⟩
     ·cases h5
     ·simp only [List.cons.injEq,and_true] at h5; exact h5.symm
    have hrun:(do eqGuard op xt x (.const (.slice none 0 0)) (a.eval x) (.slice none 0 0); binOp op xt (a.eval x) (.slice none 0 0):Sem Value).run P w=.ok (.bool (if op=.eql then A.isNone else !A.isNone)) w:=by
     rw [hv]
     have hg:eqGuard op xt x (.const (.slice none 0 0)) (.slice A (List.length xs) c) (.slice none 0 0)=pure ():=by cases op <;> rfl
     rw [hg]
     simp only [Sem.run_bind,Sem.run_pure,Result.andThen_ok]
     rcases hop with rfl | rfl
     ·simp only [binOp,if_true]
      simp [Go.run_equal_slice_nil w xt e A _ c hu]
     ·simp only [reduceCtorEq,if_false]
      exact Go.run_neq_slice_nil w xt e A _ c hu
    refine ⟨A.isNone,?_,hrun⟩
    split at h
    ·obtain ⟨g1,g2⟩:=zwt h
     cases A <;> assumption
    ·rename_i hne
     have:xs≠[]:=fun e=>hne (by rw [e]; rfl)
     obtain ⟨ad,rfl,_⟩:=hx this
     exact h
   | _=>cases h
  ·cases h

theorem Rep.reput (R:Rep E w0 ok O σ tm w M) {d:Tmp} {s:SV} {v:Value} (hv:tm[d]?=some v) (hs:zi w0 ok M s v) (hl:Live σ s):Rep E w0 ok O (σ.put (some d) s) tm w M:=by
 have hd:d<tm.size:=(Array.getElem?_eq_some_iff.1 hv).1
 have:=R.putV (d:=some d) hs hl (fun x hx=>by cases hx; exact hd)
 have e:z3l tm (some d) v=tm:=by
  simp only [z3l]
  apply Array.ext_getElem?
  intro i
  by_cases hi:d=i
  ·subst hi; rw [hv]; simp [hd]
  ·rw [Array.getElem?_setIfInBounds_ne hi]
 rw [e] at this
 exact this

theorem zwv {R0:Type} {res:R0} (R:Rep E w0 ok O σ tm w M) {d:Nat} {dst:Option Tmp} {ty:TypeId} {k:St→Option R0} (h:zi1 E σ d dst ty k=some res):∃ σ' M',k σ'=some res∧Rep E w0 ok O σ' tm w M':=by
 unfold zi1 at h
 split at h
 ·exact ⟨σ,M,h,R⟩
 ·rename_i s
  split at h
  ·rename_i j hj
   split at h
   ·rename_i b hb
    cases hk:((E.tyOf b.ty).flat||Nat.beq b.c.count 0) <;> rw [hk] at h
    ·exact ⟨σ,M,h,R⟩
    ·simp only [cond_true] at h
     obtain ⟨u,h1,cs,h2,h3⟩:=R.slots s _ hj
     obtain ⟨σ1,t,l,g1,g2,g3,g4,g5,g6⟩:=z5d depth w0 ok O σ tm w M _ cs _ R h2 h
     cases t with
     | sl e t =>
      simp only [] at g1
      cases hp:Nat.blt (32*d) PIN <;> rw [hp] at g1
      ·cases g1
      ·simp only [cond_true] at g1
       have fin:∀ (t':Ty) (l':L (.sl e t')),holds (Rd w0 ok) w (.sl e t') l'→plain w (.sl e t') l'→z6 (.sl e t') l'=z6 (.sl e t) l→z8 (.sl e t') l'=cs→k ((σ1.addRow (32*d) ⟨e,t',erase (.sl e t') l',false⟩).put (some s) (.ref (32*d) []))=some res→∃ σ' M',k σ'=some res∧Rep E w0 ok O σ' tm w M':=by
        intro t' l' b1 b2 b3 b4 b5
        have R2:=g6.rep.addOwn (32*d) (Nat.le_of_ble_eq_true hp) l' b1 b2 (b3▸g6.free)
        refine ⟨_,_,b5,R2.reput h1 ⟨cs,⟨e,t',l',(congrArg (fun z:Loc=>zr z.1 z.2 []) (z1n M.loc (32*d) ⟨.sl e t',l'⟩)).trans rfl,b4.symm⟩,h3⟩ ⟨fun i hi=>?_,by simp [SV.boxes]⟩⟩
        simp [SV.roots] at hi
        subst hi
        exact ⟨_,z5b _ _ _⟩
       split at g1
       ·rename_i e2 u' b2 hty hx
        cases hsz:Nat.beq u'.sz t.sz <;> rw [hsz] at g1
        ·cases g1
        ·have hsz:=Nat.eq_of_beq_eq_true hsz
         simp only [cond_true] at g1
         obtain ⟨lb,lc,lx⟩:=l
         have hl0:lx=[]:=List.map_eq_nil_iff.1 hx
         subst hl0
         refine fin (.rd u') (lb,lc,[]) ⟨?_,by simp⟩ ⟨?_,by simp⟩ (by simp [z6]) g4 g1
         ·have h8:=g2.1
          cases lb with
          | none=>exact ⟨rfl,h8.2⟩
          | some g =>
           obtain ⟨cur,fz,c1,c2,c3,c4,c5,c6⟩:=h8
           exact ⟨cur,fz,c1,Nat.zero_le _,c3,by show lc*u'.sz≤_; rw [hsz]; exact c4,by simp,.inr (by simp)⟩
         ·intro b hb
          obtain ⟨cur,e3,c1,c2⟩:=g3.1 b hb
          exact ⟨cur,e3,c1,by show _=lc*u'.sz; rw [hsz]; exact c2⟩
       ·exact fin t l g2 g3 rfl g4 g1
     | _=>cases g1
   ·cases h
  ·cases h

theorem zww {R0:Type} {res:R0} (R:Rep E w0 ok O σ a.tmps w M) (T:zb P E.ti=true) {xt yt:TypeId} {x:Operand} {k:Bool→Option R0} (h:erC E σ xt x k=some res) (op:BinOp) (hop:op=.eql∨op=.neq) :
  ∃ b,k b=some res∧(do eqGuard op xt x (.const .nilIface) (a.eval x) .nilIface; binOp op xt (a.eval x) .nilIface:Sem Value).run P w=.ok (.bool (if op=.eql then !b else b)) w:=by
 unfold erC at h
 cases hk:E.ifc xt <;> rw [hk] at h
 ·cases h
 ·simp only [cond_true] at h
  have hu:P.underlying xt=some (.interface (P.methodsAt xt)):=by
   unfold Env.ifc at hk
   split at hk
   ·rename_i ty n ht
    have h1:=z95 T ht
    simp only [z7a,Bool.and_eq_true,Bool.or_eq_true] at h1
    rcases h1.2 with h2 | h2
    ·rw [h2] at hk; cases hk
    ·unfold zm1 at h2
     split at h2
     ·rename_i ms hms
      rw [hms]
      unfold Program.methodsAt
      rw [hms]
     ·cases h2
   ·cases hk
  split at h
  ·rename_i b hs
   obtain ⟨cs,⟨v,rfl,h1,h2⟩,hw⟩:=(zz R rfl hs).1
   have hv:a.eval x=v:=by
    rcases hw with ⟨h5,_⟩ | ⟨_,h5⟩
    ·cases h5
    ·simp only [List.cons.injEq,and_true] at h5; exact h5.symm
   refine ⟨b,h,?_⟩
   rw [hv]
   cases b with
   | true =>
    obtain ⟨t,u,rfl⟩:=h1 rfl
    have hg:eqGuard op xt x (.const .nilIface) (.iface t u) .nilIface=pure ():=by cases op <;> rfl
    rw [hg]
    simp only [Sem.run_bind,Sem.run_pure,Result.andThen_ok]
    rcases hop with rfl | rfl
    ·exact run_eql_held_nil w xt t u hu
    ·exact run_neq_held_nil w xt t u hu
   | false =>
    obtain rfl:=h2 rfl
    have hg:eqGuard op xt x (.const .nilIface) .nilIface .nilIface=pure ():=by cases op <;> cases x <;> rfl
    rw [hg]
    simp only [Sem.run_bind,Sem.run_pure,Result.andThen_ok]
    rcases hop with rfl | rfl
    ·exact run_eql_nil_nil w xt hu
    ·exact run_neq_nil_nil w xt hu
  ·cases h
theorem zj6 [Glob P] {R0:Type} {res:R0} (R:Rep E w0 ok O σ a.tmps w M) (T:zb P E.ti=true) (EQ:z1v P E) (S:SpecOK P E w0 O) (K:z2l P E w0 O) {o:Oper} (hin:inB o.dst a.tmps) (hd:a.defers=[]) {k:St→Option R0} (h:z71 E σ o k=some res)
  {next:Act→World→Prop} {Q:Exit→Act→World→Prop} (hn:z1k E w0 ok O res a.tmps.size k next):o.wp P a w next Q:=by
 have nil:∀ {op:BinOp} {xt yt:TypeId} {x:Operand} {k':Bool→Option R0},o.op=.binOp op xt x (.const (.slice none 0 0)) yt→(op=.eql∨op=.neq)→zci E σ xt x k'=some res→(∀ b,k' b=k (σ.put o.dst (.val .bool (if op=.eql then b else !b))))→o.wp P a w next Q:=by
  intro op xt yt x k' hop ho h hk
  obtain ⟨b,h1,h2⟩:=zwu R T h op ho (yt:=yt)
  unfold Oper.wp execOp
  rw [hop]
  have he:a.eval (.const (.slice none 0 0))=.slice none 0 0:=rfl
  simp only [he]
  rw [Sem.run_bind,h2]
  simp only [Result.andThen_ok,Sem.run_pure,Oper.upon_value]
  rw [hk] at h1
  refine hn.at _ _ w M h1 ?_ (by rw [z1j,z3s]) (by rw [z47]; exact hd)
  rw [z1j]
  exact R.putV (s:=.val .bool _) ⟨_,rfl,.inr ⟨rfl,rfl⟩⟩ (z2s _ _) hin
 have err:∀ {op:BinOp} {xt yt:TypeId} {x:Operand} {k':Bool→Option R0},o.op=.binOp op xt x (.const .nilIface) yt→(op=.eql∨op=.neq)→erC E σ xt x k'=some res→(∀ b,k' b=k (σ.put o.dst (.val .bool (if op=.eql then !b else b))))→o.wp P a w next Q:=by
  intro op xt yt x k' hop ho h hk
  obtain ⟨b,h1,h2⟩:=zww R T h op ho (yt:=yt)
  unfold Oper.wp execOp
  rw [hop]
  have he:a.eval (.const .nilIface)=.nilIface:=rfl
  simp only [he]
  rw [Sem.run_bind,h2]
  simp only [Result.andThen_ok,Sem.run_pure,Oper.upon_value]
  rw [hk] at h1
  refine hn.at _ _ w M h1 ?_ (by rw [z1j,z3s]) (by rw [z47]; exact hd)
  rw [z1j]
  exact R.putV (s:=.val .bool _) ⟨_,rfl,.inr ⟨rfl,rfl⟩⟩ (z2s _ _) hin
 unfold z71 at h
 split at h
 ·rename_i t x y hop
  obtain ⟨w',σ',M',w2,ok2,O2,hc,h1,h2,h3⟩:=zwb (P:=P) R rfl T h
  unfold Oper.wp execOp
  rw [hop]
  simp only [Sem.run_bind,h1,Result.andThen_ok,Sem.run_pure]
  refine hn _ _ _ hc _ _ w' M' h2 ?_ (by rw [z1j,z3s]) (by rw [z47]; exact hd)
  rw [z1j]
  exact h3.putUn undef hin
 ·rename_i args ts hop
  split at h
  ·rename_i x y t tx hargs hts
   have ha:args=#[x,y]:=by apply Array.ext'; rw [hargs]
   have ht:ts=#[t,tx]:=by apply Array.ext'; rw [hts]
   obtain ⟨v,w',σ',M',w2,ok2,O2,hc,h1,h2,h3⟩:=zwi (P:=P) (ty:=o.type) R rfl T hin h
   unfold Oper.wp execOp
   rw [hop,ha,ht]
   simp only [resolve,invoke,builtin,Sem.run_bind,Sem.run_pure,Result.andThen_ok]
   have hm:(#[x,y].map a.eval)=#[a.eval x,a.eval y]:=by simp
   rw [hm,h1]
   simp only [Result.andThen_ok,Oper.upon_value]
   refine hn _ _ _ hc _ _ w' M' h2 ?_ (by rw [z1j,z3s]) (by rw [z47]; exact hd)
   rw [z1j]
   exact h3
  ·cases h
 ·rename_i args ts hop
  split at h
  ·rename_i x t hargs hts
   have ha:args=#[x]:=by apply Array.ext'; rw [hargs]
   have ht:ts=#[t]:=by apply Array.ext'; rw [hts]
   obtain ⟨w',σ',M',h1,h2,h3⟩:=zwk (P:=P) (ty:=o.type) R rfl T h
   unfold Oper.wp execOp
   rw [hop,ha,ht]
   simp only [resolve,invoke,builtin,Sem.run_bind,Sem.run_pure,Result.andThen_ok]
   have hm:(#[x].map a.eval)=#[a.eval x]:=by simp
   rw [hm,h1]
   simp only [Result.andThen_ok,Oper.upon_value]
   refine hn.at _ _ w' M' h2 ?_ (by rw [z1j,z3s]) (by rw [z47]; exact hd)
   rw [z1j]
   exact h3.putUn (.tuple #[]) hin
  ·cases h
 ·rename_i bt bn bp hop
  refine zj4 R T EQ S hin hd h fun w2 ok2 O2 hc σ1 a1 w1 M1 h1 R1 hn1 hd1=>?_
  obtain ⟨σ2,M2,h2,R2⟩:=zwv R1 h1
  exact hn _ _ _ hc _ _ w1 M2 h2 R2 hn1 hd1
 ·rename_i xt x yt hop
  exact nil hop (.inl rfl) h (fun b=>by simp)
 ·rename_i xt x yt hop
  exact nil hop (.inr rfl) h (fun b=>by simp)
 ·rename_i xt x yt hop
  exact err hop (.inl rfl) h (fun b=>by simp)
 ·rename_i xt x yt hop
  exact err hop (.inr rfl) h (fun b=>by simp)
 ·rename_i f args ts hop
  split at h
  ·exact zj4 R T EQ S hin hd h hn
  ·rename_i g c hk
   obtain ⟨w1,ok1,O1,σ1,M1,hc,h1,R1⟩:=zb3 (c:=c) _ _ R h
   exact (K.chg hc) _ _ .refl hk R1 hop hin hd h1 (hn.chg hc)
 ·exact zj4 R T EQ S hin hd h hn

theorem zni (R:Rep E w0 ok O σ tm w M) {d:Tmp} {b:Bool} (h:lk σ.sl d=some (.val .bool b)):tm[d]?=some (.bool b):=by
 obtain ⟨u,h1,cs,h2,h3⟩:=R.slots d _ h
 have:=zcw h2 (h3:z1f .bool u cs)
 rw [h1,this]

theorem zfk {R0:Type} {res:R0} (R:Rep E w0 ok O σ tm w M) {all:List Oper} {i:Nat} {o:Oper} {k:St→Option R0} (h:zej all i o σ k=some res):∃ σ',k σ'=some res∧Rep E w0 ok O σ' tm w M:=by
 unfold zej at h
 cases hg:zei all i <;> rw [hg] at h
 ·exact ⟨σ,h,R⟩
 ·simp only [cond_true] at h
  split at h
  ·rename_i d hd
   split at h
   ·rename_i b hb
    have hv:=zni R hb
    split at h
    ·rename_i hbt
     subst hbt
     exact ⟨_,h,R.reput hv ⟨_,rfl,.inr ⟨rfl,rfl⟩⟩ (z2s _ _)⟩
    ·rename_i hbf
     have:b=false:=by simpa using hbf
     subst this
     exact ⟨_,h,R.reput hv ⟨_,rfl,.inr ⟨rfl,rfl⟩⟩ (z2s _ _)⟩
   ·cases h
  ·cases h

theorem zfl {R0:Type} {res:R0} (R:Rep E w0 ok O σ tm w M) {all:List Oper} {o:Oper} {yes no:Option R0} (h:z3r all o σ yes no=some res) :
  (Region.wanted o (yielded all.toArray tm)=true∧yes=some res)∨(Region.wanted o (yielded all.toArray tm)=false∧no=some res):=by
 unfold z3r at h
 split at h
 ·rename_i hg; exact .inl ⟨by simp [Region.wanted,hg],h⟩
 ·rename_i g want hg
  split at h
  ·rename_i d hd
   split at h
   ·rename_i b hb
    have hv:=zni R hb
    have hy:yielded all.toArray tm g=some b:=by
     unfold z7z at hd
     split at hd
     ·rename_i q hq
      have:all.toArray[g]?=some q:=by simpa using hq
      simp [yielded,this,hd,hv]
     ·cases hd
    split at h
    ·rename_i e; exact .inl ⟨by simp [Region.wanted,hg,hy,e],h⟩
    ·rename_i e; exact .inr ⟨by simp [Region.wanted,hg,hy,e],h⟩
   ·rename_i hb
    obtain ⟨u,h1,vs,h2,h3⟩:=R.slots d _ hb
    have hy:yielded all.toArray tm g=none:=by
     unfold z7z at hd
     split at hd
     ·rename_i q hq
      have:all.toArray[g]?=some q:=by simpa using hq
      simp [yielded,this,hd,h1,h2]
     ·cases hd
    exact .inr ⟨by simp [Region.wanted,hg,hy],h⟩
   ·cases h
  ·cases h

theorem zj7 [Glob P] {R0:Type} {res:R0} {w0:World} {ok O:Nat→Prop} (T:zb P E.ti=true) (EQ:z1v P E) (S:SpecOK P E w0 O) (K:z2l P E w0 O) {all:List Oper} {n:Nat} (hB:∀ o∈all,∀ d,o.dst=some d→d<n) {k:St→Option R0} {Q:Exit→Act→World→Prop} (hQ:z1k E w0 ok O res n k (Q .normal)) :
  ∀ (l:List Oper) (i:Nat) (σ:St) (a:Act) (w:World) (M:Map),all.drop i=l→z5n E all i l σ k=some res→Rep E w0 ok O σ a.tmps w M→a.tmps.size=n→a.defers=[]→wpOps P all.toArray Q (List.range' i l.length) a w
 | [],i,σ,a,w,M,hl,h,R,hn,hd=>by
  simp only [List.length_nil,List.range'_zero,wpOps]
  exact hQ.at σ a w M h R hn hd
 | o::l,i,σ,a,w,M,hl,h,R,hn,hd=>by
  have hi:all[i]?=some o:=by
   have:(all.drop i)[0]?=some o:=by rw [hl]; rfl
   rwa [List.getElem?_drop,Nat.add_zero] at this
  have hl':all.drop (i+1)=l:=by
   have:(all.drop i).drop 1=l:=by rw [hl]; rfl
   rwa [List.drop_drop] at this
  have hia:all.toArray[i]?=some o:=by simpa using hi
  have hin:inB o.dst a.tmps:=fun d hd=>by rw [hn]; exact hB o (List.mem_of_getElem? hi) d hd
  rw [List.length_cons,List.range'_succ]
  simp only [wpOps,hia]
  simp only [z5n] at h
  rcases zfl R h with ⟨hw,h⟩ | ⟨hw,h⟩
  ·rw [if_pos hw]
   refine .inl (zj6 R T EQ S K hin hd h ?_)
   intro w2 ok2 O2 hc σ1 a1 w1 M1 h1 R1 hn1 hd1
   obtain ⟨σ2,h2,R2⟩:=zfk R1 h1
   exact zj7 T EQ (S.chg hc) (K.chg hc) hB (hQ.chg hc) l (i+1) σ2 a1 w1 M1 hl' h2 R2 (by rw [hn1,hn]) hd1
  ·rw [if_neg (by rw [hw]; simp)]
   refine zj7 T EQ S K hB hQ l (i+1) _ _ w M hl' h ?_ (by rw [z1j,z3s,hn]) (by rw [z47]; exact hd)
   rw [z1j]
   exact R.putSkip hin
end

section
variable {P : Program} {E : Env} {w0 : World} {ok O : Nat → Prop} {σ σ' : St} {tm : Array Value} {w w' : World} {M : Map} {a : Act}

abbrev hdrL {e:TypeId} {t:Ty} (l:L (.sl e t)):Value:=.slice (l.1.map fun g=>⟨g,0,none⟩) l.2.2.length l.2.1

theorem zwx {R0:Type} {res:R0} {tx e:TypeId} {u:Ty} {b:Operand} (hf:u.flat=true) {c:St→List u.T→Option R0} (h:z6y E σ tx e u b c=some res) :
  ∃ ys,z6y E σ tx e u b (fun σ1 ys=>some (σ1,ys))=some (σ,ys)∧c σ ys=some res:=by
 unfold z6y at h ⊢
 split at h
 ·rename_i s hs
  simp only [hs,hf,cond_true] at h ⊢
  rw [zy] at h ⊢
  obtain ⟨v,h1,h2⟩:=Option.bind_eq_some_iff.1 h
  rw [h1,Option.bind_some]
  obtain ⟨vt,vx⟩:=v
  simp only [] at h2 ⊢
  split at h2
  ·cases hb:E.isStr tx <;> rw [hb] at h2
   ·cases h2
   ·simp only [cond_true] at h2 ⊢
    rw [z4y] at h2 ⊢
    obtain ⟨ys,h3,h4⟩:=Option.bind_eq_some_iff.1 h2
    exact ⟨ys,by rw [h3]; rfl,h4⟩
  ·cases hb:E.isSl tx <;> rw [hb] at h2
   ·cases h2
   ·simp only [cond_true] at h2 ⊢
    rw [z4y] at h2 ⊢
    obtain ⟨ys,h3,h4⟩:=Option.bind_eq_some_iff.1 h2
    exact ⟨ys,by rw [h3]; rfl,h4⟩
  ·cases h2
 ·cases h

theorem zwy {F:Frz} {e e2:TypeId} {u:Ty} {l:L (.sl e (.sl e2 u))} {n g:Nat} {l0 l1:L (.sl e2 u)} (hf:u.flat=true) (hh:holds F w (.sl e (.sl e2 u)) l) (hp:plain w (.sl e (.sl e2 u)) l) (hnd:(z6 (.sl e (.sl e2 u)) l).Nodup) (hg:l.1=some g) (h0:l.2.2[n]?=some l0)
  {w1 w2:World} (h1:holds F w1 (.sl e2 u) l1) (p1:plain w1 (.sl e2 u) l1) (hb:l1.1=l0.1∨l1.1=some w.heap.size) (hk:Kept (fun k=>l0.1=some k) w w1) {cur:Array Value} {fz:Nat×Nat} (hc:w.heap[g]?=some (.cells cur e fz))
  (h2:w2.heap[g]?=some (.cells (cur.toList.take n++[hdrL l1]++cur.toList.drop (n+1)).toArray e fz)) (h3:∀ k,k≠g→w2.heap[k]?=w1.heap[k]?) :
  holds F w2 (.sl e (.sl e2 u)) (l.1,l.2.1,l.2.2.set n l1)∧plain w2 (.sl e (.sl e2 u)) (l.1,l.2.1,l.2.2.set n l1)∧(z6 (.sl e (.sl e2 u)) (l.1,l.2.1,l.2.2.set n l1)).Nodup ∧
  ∀ k∈z6 (.sl e (.sl e2 u)) (l.1,l.2.1,l.2.2.set n l1),k∈z6 (.sl e (.sl e2 u)) l∨k=w.heap.size:=by
 have hnf:∀ y:L (.sl e2 u),z6 (.sl e2 u) y=y.1.toList:=fun y=>by
  have:y.2.2.flatMap (z6 u)=[]:=List.flatMap_eq_nil_iff.2 fun z _=>z8e z hf
  simp only [z6,this,List.append_nil]
 obtain ⟨hlt,hx0⟩:=List.getElem?_eq_some_iff.1 h0
 have hsplit:l.2.2=l.2.2.take n++l0::l.2.2.drop (n+1):=by
  rw [← hx0,← List.drop_eq_getElem_cons hlt,List.take_append_drop]
 have hset:l.2.2.set n l1=l.2.2.take n++l1::l.2.2.drop (n+1):=by rw [List.set_eq_take_append_cons_drop,if_pos hlt]
 have bl:z6 (.sl e (.sl e2 u)) l=g::((l.2.2.take n).flatMap (z6 (.sl e2 u))++(l0.1.toList++(l.2.2.drop (n+1)).flatMap (z6 (.sl e2 u)))):=by
  conv=>lhs; unfold z6; rw [hg,hsplit]
  simp [hnf l0]
 have bl':z6 (.sl e (.sl e2 u)) (l.1,l.2.1,l.2.2.set n l1)=g::((l.2.2.take n).flatMap (z6 (.sl e2 u))++(l1.1.toList++(l.2.2.drop (n+1)).flatMap (z6 (.sl e2 u)))):=by
  conv=>lhs; unfold z6; simp only []; rw [hg,hset]
  simp [hnf l1]
 have hall:∀ k∈z6 (.sl e (.sl e2 u)) l,k<w.heap.size:=fun k hk=>z1d hh k hk
 have hne:∀ k∈(l.2.2.take n).flatMap (z6 (.sl e2 u))++(l.2.2.drop (n+1)).flatMap (z6 (.sl e2 u)),k≠g∧l0.1≠some k∧k<w.heap.size:=by
  intro k hk
  rw [bl] at hnd
  obtain ⟨n1,n2⟩:=List.nodup_cons.1 hnd
  obtain ⟨n3,n4,n5⟩:=List.nodup_append.1 n2
  obtain ⟨n6,n7,n8⟩:=List.nodup_append.1 n4
  have hmem:k∈z6 (.sl e (.sl e2 u)) l:=by
   rw [bl]
   rcases List.mem_append.1 hk with h | h
   ·exact List.mem_cons_of_mem _ (List.mem_append.2 (.inl h))
   ·exact List.mem_cons_of_mem _ (List.mem_append.2 (.inr (List.mem_append.2 (.inr h))))
  refine ⟨fun he=>?_,fun he=>?_,hall k hmem⟩
  ·subst he
   rcases List.mem_append.1 hk with h | h
   ·exact n1 (List.mem_append.2 (.inl h))
   ·exact n1 (List.mem_append.2 (.inr (List.mem_append.2 (.inr h))))
  ·rcases List.mem_append.1 hk with h | h
   ·exact n5 k h k (List.mem_append.2 (.inl (by rw [he]; simp))) rfl
   ·exact n8 k (by rw [he]; simp) k h rfl
 have same:∀ j∈(l.2.2.take n).flatMap (z6 (.sl e2 u))++(l.2.2.drop (n+1)).flatMap (z6 (.sl e2 u)),w2.heap[j]?=w.heap[j]?:=fun j hj=>by
  obtain ⟨a1,a2,a3⟩:=hne j hj
  rw [h3 j a1]; exact hk.block j a3 a2
 have gl1:∀ k,l1.1=some k→k≠g:=by
  intro k hk2 he
  subst he
  rcases hb with hb | hb
  ·rw [hb] at hk2
   rw [bl] at hnd
   exact (List.nodup_cons.1 hnd).1 (List.mem_append.2 (.inr (List.mem_append.2 (.inl (by rw [hk2]; simp)))))
  ·rw [hb] at hk2
   cases hk2
   exact Nat.lt_irrefl _ (hall _ (by rw [bl]; simp))
 have mv1:∀ k∈z6 (.sl e2 u) l1,w2.heap[k]?=w1.heap[k]?:=fun k hk=>by
  rw [hnf l1] at hk
  exact h3 k (gl1 k (by simpa using hk))
 have elem:∀ y∈l.2.2.set n l1,y=l1∨(y∈l.2.2∧∀ k∈z6 (.sl e2 u) y,w2.heap[k]?=w.heap[k]?):=by
  intro y hy
  rw [hset] at hy
  rcases List.mem_append.1 hy with hy | hy
  ·exact .inr ⟨List.mem_of_mem_take hy,fun k hk=>same k (List.mem_append.2 (.inl (List.mem_flatMap.2 ⟨y,hy,hk⟩)))⟩
  ·rcases List.mem_cons.1 hy with rfl | hy
   ·exact .inl rfl
   ·exact .inr ⟨List.mem_of_mem_drop hy,fun k hk=>same k (List.mem_append.2 (.inr (List.mem_flatMap.2 ⟨y,hy,hk⟩)))⟩
 refine ⟨?_,?_,?_,?_⟩
 ·obtain ⟨q1,q2⟩:=hh
  rw [hg] at q1
  obtain ⟨cur',fz',c1,c2,c3,c4,c5,c6⟩:=q1
  rw [hc] at c1
  cases c1
  refine ⟨?_,fun y hy=>?_⟩
  ·simp only [hg]
   have hcells:∀ z:List (L (.sl e2 u)),z.flatMap (z8 (.sl e2 u))=z.map hdrL:=fun z=>by
    induction z with
    | nil=>rfl
    | cons y z ih=>rw [List.flatMap_cons,ih]; rfl
   have hsz:(Ty.sl e2 u).sz=1:=rfl
   rw [hsz] at c4 c5 c6
   rw [hcells] at c5
   have hncur:n<cur.toList.length:=by
    rw [Array.length_toList]; omega
   have hcs:cur.toList.take n++[hdrL l1]++cur.toList.drop (n+1)=cur.toList.set n (hdrL l1):=by
    rw [List.set_eq_take_append_cons_drop,if_pos hncur]; simp
   refine ⟨_,fz,h2,by simpa using c2,c3,?_,?_,?_⟩
   ·rw [hcs,hsz]; simpa using c4
   ·rw [hcs,hsz,hcells,List.map_set,← c5]
    simp only [List.length_set]
    rw [List.take_set]
   ·rw [hsz]; simpa using c6
  ·rcases elem y hy with rfl | ⟨hy,hk⟩
   ·exact z1t mv1 h1
   ·exact z1t hk (q2 y hy)
 ·obtain ⟨q1,q2⟩:=hp
  refine ⟨fun b hb2=>?_,fun y hy=>?_⟩
  ·have hbg:b=g:=by
    have:l.1=some b:=hb2
    rw [hg] at this; cases this; rfl
   subst hbg
   obtain ⟨cur',e',c1,c2⟩:=q1 b hg
   rw [hc] at c1
   cases c1
   refine ⟨_,e,h2,?_⟩
   have hncur:n<cur.toList.length:=by
    obtain ⟨q3,_⟩:=hh
    rw [hg] at q3
    obtain ⟨cur',fz',d1,d2,d3,d4,d5,d6⟩:=q3
    rw [hc] at d1
    cases d1
    have hsz:(Ty.sl e2 u).sz=1:=rfl
    rw [hsz] at d4
    rw [Array.length_toList]; omega
   have hcs:cur.toList.take n++[hdrL l1]++cur.toList.drop (n+1)=cur.toList.set n (hdrL l1):=by
    rw [List.set_eq_take_append_cons_drop,if_pos hncur]; simp
   rw [hcs]
   simpa using c2
  ·rcases elem y hy with rfl | ⟨hy,hk⟩
   ·exact z1u mv1 p1
   ·exact z1u hk (q2 y hy)
 ·rw [bl'] 
  have hnd2:=hnd
  rw [bl] at hnd2
  rcases hb with hb | hb
  ·rw [hb]; exact hnd2
  ·rw [hb]
   obtain ⟨n1,n2⟩:=List.nodup_cons.1 hnd2
   obtain ⟨n3,n4,n5⟩:=List.nodup_append.1 n2
   obtain ⟨n6,n7,n8⟩:=List.nodup_append.1 n4
   have hfr:∀ k∈(l.2.2.take n).flatMap (z6 (.sl e2 u))++(l.2.2.drop (n+1)).flatMap (z6 (.sl e2 u)),k≠w.heap.size:=fun k hk=>Nat.ne_of_lt (hne k hk).2.2
   refine List.nodup_cons.2 ⟨fun hm=>?_,List.nodup_append.2 ⟨n3,List.nodup_append.2 ⟨by simp,n7,fun x hx z hz he=>?_⟩,fun x hx z hz he=>?_⟩⟩
   ·rcases List.mem_append.1 hm with hm | hm
    ·exact n1 (List.mem_append.2 (.inl hm))
    ·rcases List.mem_append.1 hm with hm | hm
     ·have:g=w.heap.size:=by simpa using hm
      exact Nat.lt_irrefl _ (this▸hall g (by rw [bl]; simp))
     ·exact n1 (List.mem_append.2 (.inr (List.mem_append.2 (.inr hm))))
   ·have hx:x=w.heap.size:=by simpa using hx
    exact hfr z (List.mem_append.2 (.inr hz)) (he.symm.trans hx)
   ·rcases List.mem_append.1 hz with hz | hz
    ·have hz:z=w.heap.size:=by simpa using hz
     exact hfr x (List.mem_append.2 (.inl hx)) (he.trans hz)
    ·exact n5 x hx z (List.mem_append.2 (.inr hz)) he
 ·intro k hk
  rw [bl'] at hk
  rw [bl]
  rcases List.mem_cons.1 hk with rfl | hk
  ·exact .inl (by simp)
  ·rcases List.mem_append.1 hk with hk | hk
   ·exact .inl (List.mem_cons_of_mem _ (List.mem_append.2 (.inl hk)))
   ·rcases List.mem_append.1 hk with hk | hk
    ·rcases hb with hb | hb
     ·rw [hb] at hk
      exact .inl (List.mem_cons_of_mem _ (List.mem_append.2 (.inr (List.mem_append.2 (.inl hk)))))
     ·rw [hb] at hk
      exact .inr (by simpa using hk)
    ·exact .inl (List.mem_cons_of_mem _ (List.mem_append.2 (.inr (List.mem_append.2 (.inr hk)))))

theorem znj {d:Nat} {x:Operand} (h:zak d x=true):∀ d',some d=some d'→x≠.tmp d':=by
 rintro d' hd' rfl
 cases hd'
 simp [zak] at h

theorem zwz {R0:Type} {res:R0} (R:Rep E w0 ok O σ a.tmps w M) (T:zb P E.ti=true) {d1 d2:Nat} (hd1:d1<a.tmps.size) (hd2:d2<a.tmps.size) (hne:d1≠d2) {x:Operand} {j n:Nat} (hx:opd σ x=some (.ref j [.ix n]))
  {t tx xt t':TypeId} {p q y:Operand} {k:St→Option R0} (h:zic E σ d1 d2 t tx xt t' j n p q y k=some res) :
  ∀ (ty1:TypeId) (s1:String) (f1:Array Edge) (ty2:TypeId) (s2:String) (f2:Array Edge) (ty3:TypeId) (s3:String) (f3:Array Edge) {K:Act→World→Prop} {Q:Exit→Act→World→Prop},
   (∀ σ' w' M' (a':Act),k σ'=some res→Rep E w0 ok O σ' a'.tmps w' M'→a'.tmps.size=a.tmps.size→a'.defers=a.defers→K a' w') →
   Oper.wp P ⟨some d1,.call ⟨.builtin .append,#[x,y],#[t,tx]⟩,ty1,s1,f1,none⟩ a w (fun a1 w1=>Oper.wp P ⟨some d2,.indexAddr xt p q,ty2,s2,f2,none⟩ a1 w1 (fun a2 w2=>Oper.wp P ⟨none,.store t' (.tmp d2) (.tmp d1),ty3,s3,f3,none⟩ a2 w2 K Q) Q) Q:=by
 intro ty1 s1 f1 ty2 s2 f2 ty3 s3 f3 K Q hK
 unfold zic at h
 split at h
 ·rename_i e e' u b ht
  split at h
  ·rename_i i z hi hz
   cases hb:(u.flat&&(Nat.beq (E.tyOf t').sz 1&&Nat.beq (E.elemSz xt) 1)) <;> rw [hb] at h
   ·cases h
   simp only [Bool.and_eq_true] at hb
   obtain ⟨hf,z1,z2⟩:=hb
   have z1:=Nat.eq_of_beq_eq_true z1
   have z2:=Nat.eq_of_beq_eq_true z2
   simp only [cond_true] at h
   obtain ⟨ys,g1,h⟩:=zwx hf h
   obtain ⟨hu,hty⟩:=zcv T ht (fun v hv=>by subst hv; cases hf)
   have hue:u=E.tyOf e:=by injection hty
   have he:e'=e:=by injection hty
   subst he
   have info:∃ (ti:TypeInfo) (v:Value),P.info? e'=some ti∧ti.zero=some v∧ti.size=u.sz∧v.cells.size=u.sz∧0<u.sz∧0<ti.bytes∧ti.bytes=i.bytes:=by
    subst hue
    obtain ⟨ti,v,i1,i2,i3,i4⟩:=z99 T hz
    obtain ⟨⟨ti',j1,j2,j3,j4,j5⟩,_⟩:=(z2f T hi (by
     intro hsh
     have:=z95 T hi
     unfold z7a at this
     rw [hsh] at this
     simp only [Bool.and_eq_true,beq_iff_eq] at this; replace this:=this.1
     have h9:E.tyOf e'=.un:=by rw [Env.tyOf,hi]; exact this
     have:=z68 _ hz
     rw [h9] at this
     exact this rfl)).1
    rw [i1] at j1
    cases j1
    exact ⟨ti,v,i1,i2,i4,by rw [← Array.length_toList,i3,zd8 _ hz],Nat.pos_of_ne_zero (z68 _ hz),j4,j3⟩
   obtain ⟨ti,v,i1,i2,i4,hvs,hpos,j4,j3⟩:=info
   split at h
   ·rename_i re e2 u2 xs hr
    obtain ⟨l,hl,hel,hh,hnd,hpl⟩:∃ l:L (.sl re (.sl e2 u2)),M.loc j=⟨.sl re (.sl e2 u2),l⟩∧erase (.sl re (.sl e2 u2)) l=xs∧holds (Rd w0 ok) w (.sl re (.sl e2 u2)) l∧(z6 (.sl re (.sl e2 u2)) l).Nodup∧plain w (.sl re (.sl e2 u2)) l:=by
     obtain ⟨l,a1,a2,a3,a4,a5⟩:=R.rows j _ hr
     exact ⟨l,a1,a2,a3,a4,a5 rfl⟩
    obtain ⟨xx0,hxx,h⟩:=Option.bind_eq_some_iff.1 h
    unfold zf at h
    split at h
    ·rename_i hcast
     cases hcast
     simp only [] at h
     split at h
     ·rename_i hby
      split at h
      ·rename_i j' ik m hp hq
       cases hb2:(Nat.beq j j'&&(zak d1 p&&zak d1 q)) <;> rw [hb2] at h
       ·cases h
       simp only [Bool.and_eq_true] at hb2
       obtain ⟨c1,c2,c3⟩:=hb2
       have c1:=Nat.eq_of_beq_eq_true c1
       subst c1
       simp only [cond_true] at h
       split at h
       ·rename_i hm
        simp only [dif_pos] at h
        obtain ⟨hm0,hmn⟩:=hm
        -- the element
        obtain ⟨⟨cs,⟨e1,t1,l0,k1,rfl⟩,k3⟩,k4⟩:=zz R rfl hx
        rw [hl] at k1
        have k1:(l.2.2[n]?).bind (fun z=>zr (.sl e' u) z [])=some ⟨.sl e1 t1,l0⟩:=k1
        obtain ⟨y0,k5,k6⟩:=Option.bind_eq_some_iff.1 k1
        have k6:some (⟨.sl e' u,y0⟩:Loc)=some ⟨.sl e1 t1,l0⟩:=by rw [← k6]; exact (z2y _ _).symm
        cases k6
        have hxx0:xx0=erase (.sl e' u) y0:=by
         rw [← hel] at hxx
         have hxx:(l.2.2.map (erase (.sl e' u)))[n]?=some xx0:=hxx
         rw [List.getElem?_map,k5] at hxx
         cases hxx; rfl
        subst hxx0
        have hmem:=List.mem_of_getElem? k5
        have hlt:=(List.getElem?_eq_some_iff.1 k5).1
        have hax:a.eval x=hdrL y0:=by
         rcases k3 with ⟨k7,_⟩ | ⟨_,k7⟩
         ·cases k7
         ·simp only [z8,List.cons.injEq,and_true] at k7; exact k7.symm
        obtain ⟨⟨cs,⟨e3,t3,l3,m1,rfl⟩,m3⟩,m4⟩:=zz R rfl hp
        rw [hl,z2y] at m1
        cases m1
        have hap:a.eval p=hdrL l:=by
         rcases m3 with ⟨k7,_⟩ | ⟨_,k7⟩
         ·cases k7
         ·simp only [z8,List.cons.injEq,and_true] at k7; exact k7.symm
        have haq:=z85 R rfl hq
        obtain ⟨σ1,ls,g2,g3⟩:=zfh (P:=P) R rfl T g1
        cases g2
        have hnb:∀ zs:List (L u),zs.flatMap (z6 u)=[]:=fun zs=>List.flatMap_eq_nil_iff.2 fun z _=>z8e z hf
        have hby2:(y0.2.2.length+ls.length)*ti.bytes≤LIM:=by
         rw [j3]; simpa [erase] using hby
        obtain ⟨w1,l1,r1,r2,r3,r4,r5,r6⟩:=zn9 (P:=P) (ty:=ty1) hu i1 i2 i4 hvs hpos (hh.2 y0 hmem) (hpl.2 y0 hmem) g3.src g3.ho (fun g _=>by rw [hnb,hnb]; simp) hby2 j4
        obtain ⟨g,hg⟩:=zd1 hh hlt
        have hh1:=hh.1
        rw [hg] at hh1
        obtain ⟨cur,fz,d1',d2',d3',d4',d5',d6'⟩:=hh1
        have hsz:(Ty.sl e' u).sz=1:=rfl
        rw [hsz,Nat.mul_one] at d4' d6'
        have hgl:g<w.heap.size:=(Array.getElem?_eq_some_iff.1 d1').1
        have hgne:¬ y0.1=some g:=fun he=>by
         have hnd2:=hnd
         simp only [z6,hg,Option.toList_some,List.singleton_append,List.cons_append,List.nil_append,List.nodup_cons] at hnd2
         exact hnd2.1 (List.mem_flatMap.2 ⟨y0,hmem,by simp [z6,he]⟩)
        have hw1g:w1.heap[g]?=some (.cells cur re fz):=(r6.block g hgl hgne).trans d1'
        obtain ⟨w2,s1',s2',s3',s4'⟩:=zdc (P:=P) T (t:=t') (v:=hdrL l1) (cs:=[hdrL l1]) (g:=g) (o:=n) (by rw [z1]; simp) (by simp [Value.cells]) (by rw [z1]; rfl) (by simp [Value.oneCell']) hw1g (by simp only [List.length_singleton]; omega) (by simp only [List.length_singleton]; rcases d6' with h | h; exact .inl h; exact .inr (by omega))
        -- the state behind it
        obtain ⟨q1,q2,q3,q4⟩:=zwy (w2:=w2) hf hh hpl hnd hg k5 r3 r4 r5 r6 d1' (by simpa using s2') s3'
        obtain ⟨R',kS,kB⟩:=R.killIn j 0
        have hset:zg (.sl re (.sl e' u)) l [.ix n] (.sl e' u) l1=some (l.1,l.2.1,l.2.2.set n l1):=by
         show (l.2.2[n]?).bind (fun z=>(zg (.sl e' u) z [] (.sl e' u) l1).map _)=_
         rw [k5,Option.bind_some,z3e]
         rfl
        have hfree:Free w0 ok O (σ.killIn j 0) M [w.heap.size]:=by
         refine ⟨by simp,fun k hk=>?_,fun i hi k hk=>?_,fun i hi hk=>?_⟩
         ·have hk:k=w.heap.size:=by simpa using hk
          subst hk
          exact ⟨fun h=>Nat.lt_irrefl _ (R.ok_lt h),.inr R.kept.size⟩
         ·have hk:k=w.heap.size:=by simpa using hk
          subst hk
          obtain ⟨r,hr⟩:=hi
          obtain ⟨l2,g1,_,g3,_⟩:=R'.rows i r hr
          rw [g1]
          exact fun hk=>Nat.lt_irrefl _ (z1d g3 _ hk)
         ·obtain ⟨b,hb⟩:=hi
          obtain ⟨cs,_,g2,_⟩:=R'.boxes i b hb
          have:=(Array.getElem?_eq_some_iff.1 g2).1
          have hk:M.blk i=w.heap.size:=by simpa using hk
          omega
        have hkept:Kept (fun k=>k∈z6 (.sl re (.sl e' u)) l) w w2:=by
         refine Kept.trans (O:=fun k=>k∈z6 (.sl re (.sl e' u)) l) (O':=fun k=>k=g) ⟨r6.os,r6.tape,r6.output,r6.size,fun k hk hn=>r6.block k hk fun he=>hn ?_⟩ s4' fun k _ hk=>?_
         ·exact List.mem_append.2 (.inr (List.mem_flatMap.2 ⟨y0,hmem,by simp [z6,he]⟩))
         ·subst hk; exact List.mem_append.2 (.inl (by rw [hg]; simp))
        have R2:=R'.upd (w':=w2) (r:=⟨re,.sl e' u,xs,false⟩) (l:=l) (l':=(l.1,l.2.1,l.2.2.set n l1)) (bs:=[w.heap.size]) hr hl hkept q1 q3 (fun _=>q2) (by simp [z8]) (fun k hk=>(q4 k hk).imp id fun h=>by simp [h]) hfree
         (fun s v hv p hp=>z3o _ _ [.ix n] _ _ _ p hset (by have:=kS s v hv p hp; simp only [ixs]; omega)) (fun i b hb p hp=>z3o _ _ [.ix n] _ _ _ p hset (by have:=kB i b hb p hp; simp only [ixs]; omega))
        have her:erase (.sl re (.sl e' u)) (l.1,l.2.1,l.2.2.set n l1)=xs.set n (List.append (erase (.sl e' u) y0) (ls.map (erase u))):=by
         rw [← hel]
         show (l.2.2.set n l1).map (erase (.sl e' u))=(l.2.2.map (erase (.sl e' u))).set n _
         rw [List.map_set]
         congr 1
         show l1.2.2.map (erase u)=_
         rw [r2,List.map_append]
         rfl
        simp only [] at R2
        rw [her] at R2
        -- the machine's three steps
        have hwp1:∀ {K:Act→World→Prop},K (a.put (some d1) (hdrL l1)) w1→Oper.wp P ⟨some d1,.call ⟨.builtin .append,#[x,y],#[t,tx]⟩,ty1,s1,f1,none⟩ a w K Q:=fun hK=>by
         unfold Oper.wp execOp
         simp only [resolve,invoke,builtin,Sem.run_bind,Sem.run_pure,Result.andThen_ok]
         have hm:(#[x,y].map a.eval)=#[a.eval x,a.eval y]:=by simp
         rw [hm,hax,r1]
         simp only [Result.andThen_ok,Oper.upon_value]
         exact hK
        refine hwp1 ?_
        have ep:(a.put (some d1) (hdrL l1)).eval p=hdrL l:=(Act.eval_put (znj c2)).trans hap
        have eq:(a.put (some d1) (hdrL l1)).eval q=.int ik m:=(Act.eval_put (znj c3)).trans haq
        have hwp2:∀ {K:Act→World→Prop},K ((a.put (some d1) (hdrL l1)).put (some d2) (.pointer (some ⟨g,n,none⟩))) w1→Oper.wp P ⟨some d2,.indexAddr xt p q,ty2,s2,f2,none⟩ (a.put (some d1) (hdrL l1)) w1 K Q:=fun hK=>by
         have hrun:=zd0 (P:=P) T (by rw [z2]; simp:E.elemSz xt≠0) (ad:=⟨g,0,none⟩) (c:=l.2.1) (k:=ik) hm0 ((Int.toNat_lt hm0).1 (hmn▸hlt)) w1
         rw [z2v,z2,Nat.mul_one,hmn] at hrun
         unfold Oper.wp execOp
         simp only [ep,eq,Sem.run_bind]
         rw [show hdrL l=.slice (some ⟨g,0,none⟩) l.2.2.length l.2.1 by simp [hdrL,hg]]
         rw [show (Instr.indexAt xt (.slice (some ⟨g,0,none⟩) l.2.2.length l.2.1) (.int ik m)).run P w1=.ok (.pointer (some ⟨g,n,none⟩)) w1 by simpa using hrun]
         simp only [Result.andThen_ok,Sem.run_pure,Oper.upon_value]
         exact hK
        refine hwp2 ?_
        have e1:((a.put (some d1) (hdrL l1)).put (some d2) (.pointer (some ⟨g,n,none⟩))).eval (.tmp d2)=.pointer (some ⟨g,n,none⟩):=by
         simp [Act.eval,Act.put,hd2]
        have e2:((a.put (some d1) (hdrL l1)).put (some d2) (.pointer (some ⟨g,n,none⟩))).eval (.tmp d1)=hdrL l1:=by
         rw [Act.eval_put (fun d hd=>by cases hd; intro h; cases h; exact hne rfl)]
         simp [Act.eval,Act.put,hd1]
        have hwp3:∀ {K:Act→World→Prop},K ((a.put (some d1) (hdrL l1)).put (some d2) (.pointer (some ⟨g,n,none⟩))) w2→Oper.wp P ⟨none,.store t' (.tmp d2) (.tmp d1),ty3,s3,f3,none⟩ ((a.put (some d1) (hdrL l1)).put (some d2) (.pointer (some ⟨g,n,none⟩))) w1 K Q:=fun hK=>by
         unfold Oper.wp execOp
         simp only [e1,e2,Sem.run_bind,s1',Result.andThen_ok,Sem.run_pure]
         exact hK
        refine hwp3 (hK _ w2 (z1g M j ⟨.sl re (.sl e' u),(l.1,l.2.1,l.2.2.set n l1)⟩) _ h ?_ ?_ ?_)
        ·rw [z1j,z1j]
         exact (R2.putUn (d:=some d1) _ (fun x hx=>by cases hx; exact hd1)).putUn (d:=some d2) _ (fun x hx=>by cases hx; rw [z3s]; exact hd2)
        ·rw [z1j,z1j,z3s,z3s]
        ·rw [z47,z47]
       ·cases h
      ·cases h
     ·cases h
    ·cases h
   ·cases h
  ·cases h
 ·cases h
end

section
variable {P : Program} {E : Env} {w0 : World} {ok O : Nat → Prop} {σ σ' : St} {tm : Array Value} {w w' : World} {M : Map} {a : Act}

def z4n (σ:St) (o:Oper) (x:Out):St:=(σ.add x.2.1 x.2.2).put o.dst x.1
def zdd (E:Env) (all:List Oper) (p i:Nat) (σ:St) (o:Oper) (x:Out):Prop :=
 (z3r all o (σ.hide (z32 all p i)) (some true) (some false)=some true∧ze E (σ.hide (z32 all p i)) o=some x∧σ.fresh (zp o) x.2.1 x.2.2=true) ∨
 (z3r all o (σ.hide (z32 all p i)) (some true) (some false)=some false∧x=(.tup .nl,[],[]))
inductive Trace (E:Env) (all:List Oper):List Nat→Nat→List Oper→St→List Out→St→Prop where
 | nil (i:Nat) (l:List Oper) (σ:St):Trace E all [] i l σ [] σ
 | cons {p:Nat} {ps:List Nat} {i:Nat} {o:Oper} {l:List Oper} {σ σ':St} {x:Out} {xs:List Out}:zdd E all p i σ o x→Trace E all ps (i+1) l (z4n σ o x) xs σ'→Trace E all (p::ps) i (o::l) σ (x::xs) σ'

theorem zx0 {R0:Type} {res:R0} {all:List Oper} {o:Oper} {yes no:Option R0} (h:z3r all o σ yes no=some res) :
  (z3r all o σ (some true) (some false)=some true∧yes=some res)∨(z3r all o σ (some true) (some false)=some false∧no=some res):=by
 cases hg:o.guard with
 | none=>simp only [z3r,hg] at h ⊢; exact .inl ⟨trivial,h⟩
 | some gw =>
  obtain ⟨g,want⟩:=gw
  simp only [z3r,hg] at h ⊢
  cases hd:z7z all g with
  | none=>simp only [hd] at h; cases h
  | some d =>
   simp only [hd] at h ⊢
   split at h
   ·rename_i b hb
    by_cases e:b=want
    ·rw [if_pos e] at h; exact .inl ⟨by rw [if_pos e],h⟩
    ·rw [if_neg e] at h; exact .inr ⟨by rw [if_neg e],h⟩
   ·exact .inr ⟨rfl,h⟩
   ·cases h
theorem zx1 {R0:Type} {res:R0} {all:List Oper} {i:Nat} {s:SV} {k:SV→Option R0} (h:zib all i s k=some res):k s=some res:=by
 unfold zib at h
 cases hg:zei all i <;> rw [hg] at h
 ·exact h
 ·simp only [cond_true] at h
  split at h
  ·split at h
   ·rename_i b hb; subst hb; exact h
   ·rename_i b hb
    have:b=false:=by simpa using hb
    subst this; exact h
  ·cases h

theorem zj8 {R0:Type} {res:R0} {all lds:List Oper} {k:St→Option R0}:∀ (ps:List Nat) (i:Nat) (l:List Oper) (σ:St),zal E all lds ps i l σ k=some res →
  ∃ outs σ',Trace E all ps i l σ outs σ'∧outs.length=ps.length∧ps.length≤l.length∧z92 E all lds (i+ps.length) (l.drop ps.length) σ' k=some res
 | [],i,l,σ,h=>⟨[],σ,.nil i l σ,rfl,Nat.zero_le _,by simpa [zal] using h⟩
 | p::ps,i,[],σ,h=>by cases h
 | p::ps,i,o::l,σ,h=>by
  simp only [zal] at h
  rcases zx0 h with ⟨hw,h⟩ | ⟨hw,h⟩
  ·rw [zew] at h
   obtain ⟨out,h1,h2⟩:=Option.bind_eq_some_iff.1 h
   cases hf:σ.fresh (zp o) out.2.1 out.2.2 <;> rw [hf] at h2
   ·cases h2
   ·simp only [cond_true] at h2
    obtain ⟨outs,σ',g1,g2,g3,g4⟩:=zj8 ps (i+1) l _ (zx1 h2)
    exact ⟨out::outs,σ',.cons (.inl ⟨hw,h1,hf⟩) g1,by simp [g2],by simp; exact g3,by rw [List.length_cons,List.drop_succ_cons,show i+(ps.length+1)=i+1+ps.length by omega]; exact g4⟩
  ·obtain ⟨outs,σ',g1,g2,g3,g4⟩:=zj8 ps (i+1) l _ h
   exact ⟨(.tup .nl,[],[])::outs,σ',.cons (.inr ⟨hw,rfl⟩) g1,by simp [g2],by simp; exact g3,by rw [List.length_cons,List.drop_succ_cons,show i+(ps.length+1)=i+1+ps.length by omega]; exact g4⟩

structure Chars (base:St) (l:List Oper) (outs:List Out) (j:Nat) (σ:St):Prop where
 sl:∀ s v,lk σ.sl s=some v→lk base.sl s=some v∨∃ t o x,t<j∧l[t]?=some o∧outs[t]?=some x∧o.dst=some s∧v=x.1
 rows:∀ i r,lk σ.rows i=some r→lk base.rows i=some r∨∃ t x,t<j∧outs[t]?=some x∧lk x.2.1 i=some r
 bx:∀ i b,lk σ.bx i=some b→lk base.bx i=some b∨∃ t x,t<j∧outs[t]?=some x∧lk x.2.2 i=some b
 rows':∀ i,(∃ r,lk base.rows i=some r)→∃ r,lk σ.rows i=some r
 bx':∀ i,(∃ r,lk base.bx i=some r)→∃ r,lk σ.bx i=some r
 rowsO:∀ t x i,t<j→outs[t]?=some x→(∃ r,lk x.2.1 i=some r)→∃ r,lk σ.rows i=some r
 bxO:∀ t x i,t<j→outs[t]?=some x→(∃ r,lk x.2.2 i=some r)→∃ r,lk σ.bx i=some r

theorem zx2 {o:Oper} {x:Out} (s:Nat) (v:SV) (h:lk (z4n σ o x).sl s=some v):(o.dst=some s∧v=x.1)∨lk σ.sl s=some v:=by
 unfold z4n at h
 cases hd:o.dst with
 | none=>rw [hd] at h; exact .inr h
 | some d =>
  rw [hd] at h
  simp only [St.put,zn] at h
  split at h
  ·rename_i e; cases h; exact .inl ⟨by rw [e],rfl⟩
  ·exact .inr h
theorem zfm {o:Oper} {x:Out}:(z4n σ o x).rows=x.2.1++σ.rows:=z64 _ _
theorem zfn {o:Oper} {x:Out}:(z4n σ o x).bx=x.2.2++σ.bx:=z5a _ _

theorem zx3 {all:List Oper}:∀ {ps:List Nat} {i:Nat} {l:List Oper} {σ:St} {outs:List Out} {σ':St},Trace E all ps i l σ outs σ' →
  (∀ j,j<outs.length→∃ σj o x p,l[j]?=some o∧outs[j]?=some x∧ps[j]?=some p∧zdd E all p (i+j) σj o x∧Chars σ l outs j σj)∧Chars σ l outs outs.length σ':=by
 intro ps i l σ outs σ' h
 induction h with
 | nil i l σ=>exact ⟨fun j hj=>absurd hj (Nat.not_lt_zero _),⟨fun s v h=>.inl h,fun i r h=>.inl h,fun i b h=>.inl h,fun i h=>h,fun i h=>h,fun t x i ht=>absurd ht (Nat.not_lt_zero _),fun t x i ht=>absurd ht (Nat.not_lt_zero _)⟩⟩
 | @cons p ps i o l σ σ' x xs h1 h2 ih =>
  obtain ⟨ih1,ih2⟩:=ih
  have up:∀ {j σj},Chars (z4n σ o x) l xs j σj→Chars σ (o::l) (x::xs) (j+1) σj:=by
   intro j σj hc
   refine ⟨fun s v h=>?_,fun k r h=>?_,fun k b h=>?_,fun k hk=>hc.rows' k ?_,fun k hk=>hc.bx' k ?_,fun t x' k ht hx' hk=>?_,fun t x' k ht hx' hk=>?_⟩
   ·rcases hc.sl s v h with h | ⟨t,o',x',ht,h3,h4,h5,h6⟩
    ·rcases zx2 s v h with ⟨h3,h4⟩ | h
     ·exact .inr ⟨0,o,x,Nat.succ_pos _,rfl,rfl,h3,h4⟩
     ·exact .inl h
    ·exact .inr ⟨t+1,o',x',Nat.succ_lt_succ ht,h3,h4,h5,h6⟩
   ·rcases hc.rows k r h with h | ⟨t,x',ht,h4,h5⟩
    ·rw [zfm,z2b] at h
     cases hq:lk x.2.1 k with
     | some r'=>rw [hq] at h; cases h; exact .inr ⟨0,x,Nat.succ_pos _,rfl,hq⟩
     | none=>rw [hq] at h; exact .inl h
    ·exact .inr ⟨t+1,x',Nat.succ_lt_succ ht,h4,h5⟩
   ·rcases hc.bx k b h with h | ⟨t,x',ht,h4,h5⟩
    ·rw [zfn,z2b] at h
     cases hq:lk x.2.2 k with
     | some r'=>rw [hq] at h; cases h; exact .inr ⟨0,x,Nat.succ_pos _,rfl,hq⟩
     | none=>rw [hq] at h; exact .inl h
    ·exact .inr ⟨t+1,x',Nat.succ_lt_succ ht,h4,h5⟩
   ·obtain ⟨r,hr⟩:=hk
    rw [zfm,z2b,hr]
    cases lk x.2.1 k with
    | some r'=>exact ⟨r',rfl⟩
    | none=>exact ⟨r,rfl⟩
   ·obtain ⟨r,hr⟩:=hk
    rw [zfn,z2b,hr]
    cases lk x.2.2 k with
    | some r'=>exact ⟨r',rfl⟩
    | none=>exact ⟨r,rfl⟩
   ·cases t with
    | zero =>
     cases hx'
     obtain ⟨r,hr⟩:=hk
     exact hc.rows' k ⟨r,by rw [zfm,z2b,hr]; rfl⟩
    | succ t=>exact hc.rowsO t x' k (Nat.lt_of_succ_lt_succ ht) hx' hk
   ·cases t with
    | zero =>
     cases hx'
     obtain ⟨r,hr⟩:=hk
     exact hc.bx' k ⟨r,by rw [zfn,z2b,hr]; rfl⟩
    | succ t=>exact hc.bxO t x' k (Nat.lt_of_succ_lt_succ ht) hx' hk
  refine ⟨fun j hj=>?_,up ih2⟩
  cases j with
  | zero=>exact ⟨σ,o,x,p,rfl,rfl,rfl,h1,⟨fun s v h=>.inl h,fun i r h=>.inl h,fun i b h=>.inl h,fun i h=>h,fun i h=>h,fun t x i ht=>absurd ht (Nat.not_lt_zero _),fun t x i ht=>absurd ht (Nat.not_lt_zero _)⟩⟩
  | succ j =>
   obtain ⟨σj,o',x',p',g1,g2,g3,g4,g5⟩:=ih1 j (by simpa using hj)
   exact ⟨σj,o',x',p',g1,g2,g3,by rw [show i+(j+1)=i+1+j by omega]; exact g4,up g5⟩

structure Done (base:St) (all:List Oper) (outs:List Out) (D:Nat→Prop) (σ:St):Prop where
 sl:∀ s v,lk base.sl s=some v→lk σ.sl s=some v
 out:∀ j o x d,D j→all[j]?=some o→outs[j]?=some x→o.dst=some d→lk σ.sl d=some x.1
 rows:∀ i r,lk base.rows i=some r→lk σ.rows i=some r
 rowsO:∀ j x i r,D j→outs[j]?=some x→lk x.2.1 i=some r→lk σ.rows i=some r
 bx:∀ i r,lk base.bx i=some r→lk σ.bx i=some r
 bxO:∀ j x i r,D j→outs[j]?=some x→lk x.2.2 i=some r→lk σ.bx i=some r
 rowsB:∀ i r,lk σ.rows i=some r→lk base.rows i=some r∨∃ j x r',D j∧outs[j]?=some x∧lk x.2.1 i=some r'
 bxB:∀ i r,lk σ.bx i=some r→lk base.bx i=some r∨∃ j x r',D j∧outs[j]?=some x∧lk x.2.2 i=some r'

theorem z9f {α:Type} (q:Nat→Bool):∀ (l:List (Nat×α)) (n:Nat),lk (l.filter fun x=>q x.1) n=if q n=true then lk l n else none
 | [],n=>by simp [lk]
 | (k,v)::l,n=>by
  rw [List.filter_cons]
  by_cases hk:q k=true
  ·rw [if_pos hk,zn,zn,z9f q l n]
   by_cases hkn:k=n
   ·subst hkn; simp [hk]
   ·simp [hkn]
  ·rw [if_neg hk,z9f q l n,zn]
   by_cases hkn:k=n
   ·subst hkn; simp [hk]
   ·simp [hkn]
theorem zfo {ds:List Nat} {n:Nat}:(!(ds.any (Nat.beq n)))=true↔n∉ds:=by
 simp only [Bool.not_eq_true',List.any_eq_false]
 constructor
 ·intro h hm; have:=h n hm; simp at this
 ·intro h x hx hb; exact h (Nat.eq_of_beq_eq_true hb▸hx)

theorem zx4 {all:List Oper} {p i j d:Nat} (hj:j<i) (hp:p.testBit j=false) (hd:z7z all j=some d):d∈z32 all p i:=by
 unfold z32
 exact List.mem_filterMap.2 ⟨j,List.mem_range.2 hj,by rw [hp]; exact hd⟩
end

theorem zj9:∀ (l:List Oper) (acc:List Nat),∃ r,zk l acc=acc++r∧r.length=l.length
 | [],acc=>⟨[],by simp [zk],rfl⟩
 | o::l,acc=>by
  obtain ⟨r,h1,h2⟩:=zj9 l (acc++[z80 acc o])
  exact ⟨z80 acc o::r,by simp only [zk]; rw [h1]; simp,by simp [h2]⟩
theorem znk:∀ (l:List Oper) (acc:List Nat) (j:Nat) (o:Oper),l[j]?=some o→∃ acc',(zk l acc)[acc.length+j]?=some (z80 acc' o)∧acc'=(zk l acc).take (acc.length+j)
 | [],acc,j,o,h=>by simp at h
 | o'::l,acc,j,o,h=>by
  obtain ⟨r,h1,h2⟩:=zj9 l (acc++[z80 acc o'])
  cases j with
  | zero =>
   simp at h
   subst h
   refine ⟨acc,?_,?_⟩
   ·simp only [zk]; rw [h1]; simp
   ·simp only [zk]; rw [h1]; simp
  | succ j =>
   simp only [List.getElem?_cons_succ] at h
   obtain ⟨acc',h3,h4⟩:=znk l (acc++[z80 acc o']) j o h
   refine ⟨acc',?_,?_⟩
   ·simp only [zk]
    rw [show acc.length+(j+1)=(acc++[z80 acc o']).length+j by simp; omega]
    exact h3
   ·rw [h4]
    simp only [zk]
    congr 1
    simp; omega
theorem zx5 (zm:List Nat) (o:Oper) (t:Nat) (h:(z80 zm o).testBit t=true):∃ e∈o.after.toList,Region.binds .any e=true∧(t=e.on∨(zm.getD e.on 0).testBit t=true):=by
 have key:∀ (l:List Edge) (s:Nat),(l.foldl (fun s e=>bif Region.binds .any e then Nat.lor s (Nat.lor (2 ^ e.on) (zm.getD e.on 0)) else s) s).testBit t=true→s.testBit t=true∨∃ e∈l,Region.binds .any e=true∧(t=e.on∨(zm.getD e.on 0).testBit t=true):=by
  intro l
  induction l with
  | nil=>intro s h; exact .inl h
  | cons e l ih =>
   intro s h
   rw [List.foldl_cons] at h
   rcases ih _ h with h | ⟨e',h1,h2⟩
   ·cases hb:Region.binds .any e <;> rw [hb] at h
    ·exact .inl h
    ·simp only [cond_true] at h
     have h':(s ||| (2 ^ e.on ||| zm.getD e.on 0)).testBit t=true:=h
     rw [Nat.testBit_or,Nat.testBit_or,Bool.or_eq_true,Bool.or_eq_true] at h'
     rcases h' with h | h | h
     ·exact .inl h
     ·refine .inr ⟨e,by simp,hb,.inl ?_⟩
      rw [Nat.testBit_two_pow] at h
      exact (of_decide_eq_true h).symm
     ·exact .inr ⟨e,by simp,hb,.inr h⟩
   ·exact .inr ⟨e',by simp [h1],h2⟩
 rcases key _ 0 h with h | h
 ·simp at h
 ·exact h
theorem z8h:∀ {l:List Oper} {i:Nat},z42 i l=true→∀ (j:Nat) (o:Oper),l[j]?=some o→∀ e∈o.after.toList,Region.binds .any e=true→e.on<i+j
 | [],i,h,j,o,hj,e,he,hb=>by simp at hj
 | o'::l,i,h,j,o,hj,e,he,hb=>by
  simp only [z42,Bool.and_eq_true,List.all_eq_true] at h
  cases j with
  | zero =>
   simp at hj
   subst hj
   have:=h.1 e he
   rw [hb] at this
   simp only [Bool.not_true,Bool.false_or] at this
   have:=Nat.le_of_ble_eq_true this
   omega
  | succ j =>
   simp only [List.getElem?_cons_succ] at hj
   have:=z8h h.2 j o hj e he hb
   omega
theorem zx6 {n p:Nat} (h:z90 n p=true) {j:Nat} (hj:j<n):p.testBit j=true:=by
 have e:=Nat.eq_of_beq_eq_true h
 have h1:(p % 2 ^ n).testBit j=true:=by rw [e,Nat.testBit_two_pow_sub_one]; simp [hj]
 rw [Nat.testBit_mod_two_pow] at h1
 simp only [Bool.and_eq_true] at h1
 exact h1.2
theorem zja:∀ (ps:List Nat) (i j p:Nat),z3b ps i≤j→ps[j]?=some p→z90 (i+j) p=true
 | [],i,j,p,_,h=>by simp at h
 | q::ps,i,j,p,hj,h=>by
  simp only [z3b] at hj
  cases hf:z3b ps (i+1) with
  | zero =>
   rw [hf] at hj
   simp only [] at hj
   cases j with
   | zero =>
    simp at h
    subst h
    cases ht:z90 i q <;> rw [ht] at hj
    ·simp at hj
   | succ j =>
    simp only [List.getElem?_cons_succ] at h
    have:=zja ps (i+1) j p (by omega) h
    rw [show i+(j+1)=i+1+j by omega]; exact this
  | succ n =>
   rw [hf] at hj
   simp only [] at hj
   cases j with
   | zero=>omega
   | succ j =>
    simp only [List.getElem?_cons_succ] at h
    have:=zja ps (i+1) j p (by omega) h
    rw [show i+(j+1)=i+1+j by omega]; exact this

def z8i (all:List Oper) (D:Nat→Prop):Prop:=∀ j o,D j→all[j]?=some o→∀ e∈o.after.toList,Region.binds .any e=true→D e.on
theorem zb4 {all:List Oper} (hE:z42 0 all=true) {D:Nat→Prop} (hD:z8i all D):∀ (j:Nat) (o:Oper),all[j]?=some o→(∀ e∈o.after.toList,Region.binds .any e=true→D e.on)→∀ t,((zk all []).getD j 0).testBit t=true→D t:=by
 intro j
 induction j using Nat.strongRecOn with
 | _ j ih =>
  intro o ho he t ht
  obtain ⟨acc',h1,h2⟩:=znk all [] j o ho
  rw [List.length_nil,Nat.zero_add] at h1 h2
  rw [List.getD_eq_getElem?_getD,h1] at ht
  obtain ⟨e,e1,e2,e3⟩:=zx5 acc' o t ht
  rcases e3 with rfl | e3
  ·exact he e e1 e2
  ·have hlt:=z8h hE j o ho e e1 e2
   rw [Nat.zero_add] at hlt
   rw [h2,List.getD_eq_getElem?_getD,List.getElem?_take_of_lt hlt,← List.getD_eq_getElem?_getD] at e3
   have hol:e.on<all.length:=Nat.lt_trans hlt (List.getElem?_eq_some_iff.1 ho).1
   have hdon:=he e e1 e2
   exact ih e.on hlt all[e.on] (List.getElem?_eq_getElem hol) (fun e' h3 h4=>hD e.on _ hdon (List.getElem?_eq_getElem hol) e' h3 h4) t e3

section
variable {P : Program} {E : Env} {w0 : World} {ok O : Nat → Prop} {σ σ' : St} {tm : Array Value} {w w' : World} {M : Map} {a : Act}

theorem znl {α:Type}:∀ {l:List (Nat×α)} {x:Nat×α},x∈l→∃ v,lk l x.1=some v
 | (k,v)::l,x,h=>by
  rw [zn]
  by_cases hk:k=x.1
  ·exact ⟨v,by rw [if_pos hk]⟩
  ·rw [if_neg hk]
   rcases List.mem_cons.1 h with rfl | h
   ·exact absurd rfl hk
   ·exact znl h
theorem zx7 {d:Nat} {nr:List (Nat×Row)} {nb:List (Nat×Bx)} (h:σ.fresh d nr nb=true):(∀ i,(∃ r,lk nr i=some r)→i / 32=d)∧(∀ i,(∃ r,lk nb i=some r)→i=d):=by
 simp only [St.fresh,Bool.and_eq_true,List.all_eq_true] at h
 refine ⟨fun i ⟨r,hr⟩=>Nat.eq_of_beq_eq_true (h.1.1 _ (z13 hr)).1.1,fun i hi=>?_⟩
 obtain ⟨r,hr⟩:=hi
 have h2:=h.2
 split at h2
 ·cases hr
 ·rename_i x
  simp only [Bool.and_eq_true] at h2
  rw [show ([x]:List (Nat×Bx))=[(x.1,x.2)] from rfl] at hr
  rw [(z3m hr).1]
  exact Nat.eq_of_beq_eq_true h2.1.1
 ·cases h2
theorem zx8 {d:Nat} {nr:List (Nat×Row)} {nb:List (Nat×Bx)} (h:σ.fresh d nr nb=true) (hr:∀ i,(∃ r,lk nr i=some r)→lk σ'.rows i=none) (hb:∀ i,(∃ r,lk nb i=some r)→lk σ'.bx i=none):σ'.fresh d nr nb=true:=by
 simp only [St.fresh,Bool.and_eq_true,List.all_eq_true] at h ⊢
 refine ⟨⟨fun x hx=>⟨(h.1.1 x hx).1,?_⟩,h.1.2⟩,?_⟩
 ·rw [hr x.1 (znl hx)]
 ·have h2:=h.2
  split at h2
  ·rfl
  ·rename_i x
   simp only [Bool.and_eq_true] at h2 ⊢
   exact ⟨h2.1,by rw [hb x.1 ⟨x.2,z5b _ _ _⟩]⟩
  ·cases h2

structure FreeP (E:Env) (all:List Oper) (m:Nat) (base:St) (outs:List Out):Prop where
 len:outs.length=m
 le:m≤all.length
 edges:z42 0 all=true
 dst:∀ j o,j<m→all[j]?=some o→∃ d,o.dst=some d∧lk base.sl d=none
 dist:∀ i j o o' d,i<m→j<m→all[i]?=some o→all[j]?=some o'→o.dst=some d→o'.dst=some d→i=j
 at_:∀ j,j<m→∃ σj o x,all[j]?=some o∧outs[j]?=some x∧zdd E all ((zk all []).getD j 0) j σj o x∧Chars base all outs j σj

theorem zdd.ids {all:List Oper} {p i:Nat} {o:Oper} {x:Out} (h:zdd E all p i σ o x):(∀ k,(∃ r,lk x.2.1 k=some r)→k / 32=zp o)∧(∀ k,(∃ r,lk x.2.2 k=some r)→k=zp o):=by
 rcases h with ⟨_,_,h⟩ | ⟨_,rfl⟩
 ·exact zx7 h
 ·exact ⟨fun k ⟨r,hr⟩=>(nomatch hr),fun k ⟨r,hr⟩=>(nomatch hr)⟩
theorem FreeP.ids {all:List Oper} {m:Nat} {base:St} {outs:List Out} (F:FreeP E all m base outs) {t:Nat} {x:Out} (ht:t<m) (hx:outs[t]?=some x) :
  ∃ o d,all[t]?=some o∧o.dst=some d∧(∀ k,(∃ r,lk x.2.1 k=some r)→k / 32=d)∧(∀ k,(∃ r,lk x.2.2 k=some r)→k=d):=by
 obtain ⟨σj,o,x',h1,h2,h3,_⟩:=F.at_ t ht
 rw [hx] at h2
 cases h2
 obtain ⟨d,hd,_⟩:=F.dst t o ht h1
 have:=h3.ids
 have hs:zp o=d:=by simp [zp,hd]
 rw [hs] at this
 exact ⟨o,d,h1,hd,this.1,this.2⟩

theorem zjb {all:List Oper} {m:Nat} {base:St} {outs:List Out} (F:FreeP E all m base outs) {D:Nat→Prop} {σD σj:St} (hD:Done base all outs D σD) {j p:Nat} (hj:j<m) (hp:∀ t,p.testBit t=true→D t) (hc:Chars base all outs j σj):Le (σj.hide (z32 all p j)) σD:=by
 have tin:∀ t o d,t<j→all[t]?=some o→o.dst=some d→d∉z32 all p j→D t:=by
  intro t o d ht ho hd hn
  cases hb:p.testBit t with
  | true=>exact hp t hb
  | false=>exact absurd (zx4 ht hb (by simp [z7z,ho,hd])) hn
 constructor
 ·intro s v h
  have h:lk (σj.sl.filter (fun x=>!((z32 all p j).any (Nat.beq x.1)))) s=some v:=h
  rw [z9f (fun n=>!((z32 all p j).any (Nat.beq n)))] at h
  split at h
  ·rename_i hs
   have hs:=zfo.1 hs
   rcases hc.sl s v h with h | ⟨t,o,x,ht,ho,hx,hd,rfl⟩
   ·exact hD.sl s v h
   ·exact hD.out t o x s (tin t o s ht ho hd hs) ho hx hd
  ·cases h
 ·intro s v h
  have h:lk (σj.rows.filter (fun x=>!((z32 all p j).any (Nat.beq (x.1 / 32))))) s=some v:=h
  rw [z9f (fun n=>!((z32 all p j).any (Nat.beq (n / 32))))] at h
  split at h
  ·rename_i hs
   have hs:=zfo.1 hs
   rcases hc.rows s v h with h | ⟨t,x,ht,hx,h⟩
   ·exact hD.rows s v h
   ·obtain ⟨o,d,ho,hd,h1,_⟩:=F.ids (Nat.lt_trans ht hj) hx
    exact hD.rowsO t x s v (tin t o d ht ho hd (by rw [← h1 s ⟨v,h⟩]; exact hs)) hx h
  ·cases h
 ·intro s v h
  have h:lk (σj.bx.filter (fun x=>!((z32 all p j).any (Nat.beq x.1)))) s=some v:=h
  rw [z9f (fun n=>!((z32 all p j).any (Nat.beq n)))] at h
  split at h
  ·rename_i hs
   have hs:=zfo.1 hs
   rcases hc.bx s v h with h | ⟨t,x,ht,hx,h⟩
   ·exact hD.bx s v h
   ·obtain ⟨o,d,ho,hd,_,h1⟩:=F.ids (Nat.lt_trans ht hj) hx
    exact hD.bxO t x s v (tin t o d ht ho hd (by rw [← h1 s ⟨v,h⟩]; exact hs)) hx h
  ·cases h

theorem Done.step {all:List Oper} {m:Nat} {base:St} {outs:List Out} (F:FreeP E all m base outs) {D:Nat→Prop} {σD:St} (hD:Done base all outs D σD) (hDm:∀ t,D t→t<m) {j:Nat} (hj:j<m) {o:Oper} {x:Out} (ho:all[j]?=some o) (hx:outs[j]?=some x)
  (hfr:(∀ k,(∃ r,lk x.2.1 k=some r)→lk σD.rows k=none)∧(∀ k,(∃ r,lk x.2.2 k=some r)→lk σD.bx k=none)):Done base all outs (fun t=>t=j∨D t) (z4n σD o x):=by
 obtain ⟨d,hd,hb⟩:=F.dst j o hj ho
 have hsl:∀ s,lk (z4n σD o x).sl s=if d=s then some x.1 else lk σD.sl s:=by
  intro s
  unfold z4n
  rw [hd]
  simp only [St.put,zn]
  rfl
 have hrow:∀ k,lk (z4n σD o x).rows k=(lk x.2.1 k).or (lk σD.rows k):=fun k=>by rw [zfm,z2b]
 have hbx:∀ k,lk (z4n σD o x).bx k=(lk x.2.2 k).or (lk σD.bx k):=fun k=>by rw [zfn,z2b]
 have orR:∀ k r,lk σD.rows k=some r→lk (z4n σD o x).rows k=some r:=by
  intro k r h
  rw [hrow]
  cases hq:lk x.2.1 k with
  | some r'=>have:=hfr.1 k ⟨r',hq⟩; rw [h] at this; cases this
  | none=>exact h
 have orB:∀ k r,lk σD.bx k=some r→lk (z4n σD o x).bx k=some r:=by
  intro k r h
  rw [hbx]
  cases hq:lk x.2.2 k with
  | some r'=>have:=hfr.2 k ⟨r',hq⟩; rw [h] at this; cases this
  | none=>exact h
 constructor
 ·intro s v h
  rw [hsl]
  split
  ·rename_i e; subst e; rw [hb] at h; cases h
  ·exact hD.sl s v h
 ·intro t o' x' d' ht ho' hx' hd'
  rw [hsl]
  by_cases htj:t=j
  ·subst htj
   rw [ho] at ho'
   rw [hx] at hx'
   cases ho'; cases hx'
   rw [hd] at hd'
   cases hd'
   rw [if_pos rfl]
  ·rcases ht with h | ht
   ·exact absurd h htj
   ·rw [if_neg (fun e=>htj (F.dist t j o' o d' (hDm t ht) hj ho' ho hd' (by rw [hd,e])))]
    exact hD.out t o' x' d' ht ho' hx' hd'
 ·exact fun k r h=>orR k r (hD.rows k r h)
 ·intro t x' k r ht hx' h
  by_cases htj:t=j
  ·subst htj
   rw [hx] at hx'
   cases hx'
   rw [hrow,h]; rfl
  ·rcases ht with h2 | ht
   ·exact absurd h2 htj
   ·exact orR k r (hD.rowsO t x' k r ht hx' h)
 ·exact fun k r h=>orB k r (hD.bx k r h)
 ·intro t x' k r ht hx' h
  by_cases htj:t=j
  ·subst htj
   rw [hx] at hx'
   cases hx'
   rw [hbx,h]; rfl
  ·rcases ht with h2 | ht
   ·exact absurd h2 htj
   ·exact orB k r (hD.bxO t x' k r ht hx' h)
 ·intro k r h
  rw [hrow] at h
  cases hq:lk x.2.1 k with
  | some r'=>exact .inr ⟨j,x,r',.inl rfl,hx,hq⟩
  | none =>
   rw [hq] at h
   rcases hD.rowsB k r h with h | ⟨t,x',r',ht,h1,h2⟩
   ·exact .inl h
   ·exact .inr ⟨t,x',r',.inr ht,h1,h2⟩
 ·intro k r h
  rw [hbx] at h
  cases hq:lk x.2.2 k with
  | some r'=>exact .inr ⟨j,x,r',.inl rfl,hx,hq⟩
  | none =>
   rw [hq] at h
   rcases hD.bxB k r h with h | ⟨t,x',r',ht,h1,h2⟩
   ·exact .inl h
   ·exact .inr ⟨t,x',r',.inr ht,h1,h2⟩

theorem zx9 [Glob P] {all:List Oper} {m n:Nat} {base:St} {outs:List Out} (T:zb P E.ti=true) (EQ:z1v P E) (S:SpecOK P E w0 O) (F:FreeP E all m base outs) {D:Nat→Prop} {σD:St} (hD:Done base all outs D σD) (hDm:∀ t,D t→t<m) {j:Nat} (hj:j<m) (hnj:¬ D j)
  (hp:∀ t,((zk all []).getD j 0).testBit t=true→D t) (hB:∀ o∈all,∀ d,o.dst=some d→d<n) {a:Act} {w:World} {M:Map} (R:Rep E w0 ok O σD a.tmps w M) (hn:a.tmps.size=n) (hd:a.defers=[]) {K:Act→World→Prop} {Q:Exit→Act→World→Prop}
  (hK:∀ σ' a' w' M',Done base all outs (fun t=>t=j∨D t) σ'→Rep E w0 ok O σ' a'.tmps w' M'→a'.tmps.size=n→a'.defers=[]→K a' w'):wpOp P all.toArray Q j K a w:=by
 obtain ⟨σj,o,x,ho,hx,htr,hc⟩:=F.at_ j hj
 have hle:=zjb F hD hj hp hc
 have hin:inB o.dst a.tmps:=fun d hd=>by rw [hn]; exact hB o (List.mem_of_getElem? ho) d hd
 have hoa:all.toArray[j]?=some o:=by simpa using ho
 have hfr:(∀ k,(∃ r,lk x.2.1 k=some r)→lk σD.rows k=none)∧(∀ k,(∃ r,lk x.2.2 k=some r)→lk σD.bx k=none):=by
  obtain ⟨o',d,ho',hd',i1,i2⟩:=F.ids hj hx
  rcases htr with ⟨_,_,hf⟩ | ⟨_,rfl⟩
  ·refine ⟨fun k hk=>?_,fun k hk=>?_⟩
   ·cases hq:lk σD.rows k with
    | none=>rfl
    | some r =>
     exfalso
     rcases hD.rowsB k r hq with h | ⟨t,x',r',ht,h1,h2⟩
     ·obtain ⟨r2,hr2⟩:=hc.rows' k ⟨r,h⟩
      rw [zez hf hk] at hr2; cases hr2
     ·obtain ⟨o2,d2,ho2,hd2,i3,_⟩:=F.ids (hDm t ht) h1
      have e:d2=d:=(i3 k ⟨r',h2⟩).symm.trans (i1 k hk)
      subst e
      have:=F.dist t j o2 o' d2 (hDm t ht) hj ho2 ho' hd2 hd'
      exact hnj (this▸ht)
   ·cases hq:lk σD.bx k with
    | none=>rfl
    | some r =>
     exfalso
     rcases hD.bxB k r hq with h | ⟨t,x',r',ht,h1,h2⟩
     ·obtain ⟨r2,hr2⟩:=hc.bx' k ⟨r,h⟩
      rw [zau hf hk] at hr2; cases hr2
     ·obtain ⟨o2,d2,ho2,hd2,_,i3⟩:=F.ids (hDm t ht) h1
      have e:d2=d:=(i3 k ⟨r',h2⟩).symm.trans (i2 k hk)
      subst e
      have:=F.dist t j o2 o' d2 (hDm t ht) hj ho2 ho' hd2 hd'
      exact hnj (this▸ht)
  ·exact ⟨fun k ⟨r,hr⟩=>(nomatch hr),fun k ⟨r,hr⟩=>(nomatch hr)⟩
 have hnext:=Done.step F hD hDm hj ho hx hfr
 have wm:∀ {b:Bool},z3r all o (σj.hide (z32 all ((zk all []).getD j 0) j)) (some true) (some false)=some b→z3r all o σD (some true) (some false)=some b:=by
  intro b h
  unfold z3r at h ⊢
  cases hg:o.guard with
  | none=>rw [hg] at h; exact h
  | some gw =>
   rw [hg] at h
   simp only [] at h ⊢
   cases hdd:z7z all gw.1 with
   | none=>rw [hdd] at h; cases h
   | some dd =>
    rw [hdd] at h
    simp only [] at h ⊢
    cases hq:lk (σj.hide (z32 all ((zk all []).getD j 0) j)).sl dd with
    | none=>rw [hq] at h; cases h
    | some v=>rw [hle.sl dd v hq]; rw [hq] at h; exact h
 unfold wpOp
 rw [hoa]
 simp only []
 rcases htr with ⟨hw,hpu,hf⟩ | ⟨hw,rfl⟩
 ·rcases zfl R (wm hw) with ⟨hw1,_⟩ | ⟨_,h2⟩
  ·rw [if_pos hw1]
   have hpu':ze E σD o=some x:=zig hle hpu
   have hf':σD.fresh (zp o) x.2.1 x.2.2=true:=zx8 hf hfr.1 hfr.2
   refine .inl (zn1 R rfl T EQ S hpu' hf' K Q fun v w' M' X=>?_)
   refine hK _ _ w' M' hnext ?_ (by rw [z1j,z3s,hn]) (by rw [z47]; exact hd)
   rw [z1j]
   exact R.add hf' X hin
  ·cases h2
 ·rcases zfl R (wm hw) with ⟨_,h2⟩ | ⟨hw1,_⟩
  ·cases h2
  ·rw [if_neg (by rw [hw1]; simp)]
   refine hK _ _ w M hnext ?_ (by rw [z1j,z3s,hn]) (by rw [z47]; exact hd)
   rw [z1j]
   exact R.putSkip hin
end

section
variable {P : Program} {E : Env} {w0 : World} {ok O : Nat → Prop} {σ σ' : St} {tm : Array Value} {w w' : World} {M M' : Map} {a : Act}

theorem znm {t:Ty} (hf:t.flat=true):∀ {s:SV} {cs:List Value} {xs:List t.T},z1e w0 ok M s cs→zek t s=some xs→∃ ls:List (L t),ls.map (erase t)=xs∧ls.flatMap (z8 t)=cs∧ls.length=s.count
 | .nl,cs,xs,h,hx=>by
  simp only [z1e] at h
  subst h
  cases hx
  exact ⟨[],rfl,rfl,rfl⟩
 | .cns a b,cs,xs,h,hx=>by
  obtain ⟨c1,c2,rfl,h1,h2⟩:=h
  simp only [zek] at hx
  split at hx
  ·rename_i u x ys hy
   split at hx
   ·rename_i e
    subst e
    cases hx
    obtain ⟨ls,g1,g2,g3⟩:=znm hf h2 hy
    obtain ⟨l,k1,k2,_⟩:=z9a hf h1
    exact ⟨l::ls,by simp [g1,k1],by simp [g2,k2],by simp [g3,SV.count]⟩
   ·cases hx
  ·cases hx
 | .val _ _,_,_,_,hx=>by cases hx
 | .ref _ _,_,_,_,hx=>by cases hx
 | .vw _ _ _,_,_,_,hx=>by cases hx
 | .ls _,_,_,_,hx=>by cases hx
 | .st _,_,_,_,hx=>by cases hx
 | .pr _ _,_,_,_,hx=>by cases hx
 | .bp _ _ _,_,_,_,hx=>by cases hx
 | .ep _ _ _ _ _,_,_,_,hx=>by cases hx
 | .lp _ _,_,_,_,hx=>by cases hx
 | .clo _ _,_,_,_,hx=>by cases hx
 | .tup _,_,_,_,hx=>by cases hx
 | .no,_,_,_,hx=>by cases hx
 | .er _,_,_,_,hx=>by cases hx
 | .un,_,_,_,hx=>by cases hx

theorem zxa (R:Rep E w0 ok O σ tm w M) (j:Nat):∃ M',Rep E w0 ok O (σ.prom E j) tm w M':=by
 unfold St.prom
 split
 ·rename_i b hb
  cases hk:(b.c.isCh&&(Nat.blt (z4u j) PIN&&(match lk σ.rows (z4u j) with | none=>true | some _=>false)))
  ·exact ⟨M,R⟩
  ·simp only [cond_true]
   simp only [Bool.and_eq_true] at hk
   obtain ⟨k1,k2,k3⟩:=hk
   have hn:lk σ.rows (z4u j)=none:=by
    split at k3
    ·assumption
    ·cases k3
   obtain ⟨cs,h1,h2,h3⟩:=R.boxes j b hb
   cases hf:(E.tyOf b.ty).flat
   ·simp only [cond_false]
    cases hc:Nat.beq b.c.count 0
    ·exact ⟨M,R⟩
    ·have hc:=Nat.eq_of_beq_eq_true hc
     have hcs:cs=[]:=by
      cases hbc:b.c with
      | nl=>rw [hbc] at h1; exact h1
      | cns x y=>rw [hbc] at hc; simp [SV.count] at hc
      | _=>rw [hbc] at k1; cases k1
     subst hcs
     simp only [cond_true]
     have fin:∀ t:Ty,t.sz=(E.tyOf b.ty).sz→∃ M',Rep E w0 ok O (σ.turn j (z4u j) ⟨b.ty,t,[],false⟩) tm w M':=fun t ht =>
      zj5 R hb k1 (Nat.le_of_ble_eq_true k2) hn (t:=t) (ls:=[]) ht (by simp [hc]) h1 h2 rfl (by simp) rfl
     cases E.rdm
     ·exact fin _ rfl
     ·exact fin _ (z61 _)
   ·simp only [cond_true]
    split
    ·rename_i xs hx
     obtain ⟨ls,g1,g2,g3⟩:=znm hf h1 hx
     rw [← g1]
     exact zj5 R hb k1 (Nat.le_of_ble_eq_true k2) hn rfl g3 h1 h2 g2 (fun y _=>z8f y hf _ w) (List.flatMap_eq_nil_iff.2 fun y _=>z8e y hf)
    ·exact ⟨M,R⟩
 ·exact ⟨M,R⟩
theorem zxb (R:Rep E w0 ok O σ tm w M):∃ M',Rep E w0 ok O (σ.promAll E) tm w M':=by
 unfold St.promAll
 generalize σ.bx.filterMap (fun x=>bif x.2.c.isCh then some x.1 else none)=l
 induction l generalizing σ M with
 | nil=>exact ⟨M,R⟩
 | cons j l ih =>
  obtain ⟨M1,R1⟩:=zxa R j
  exact ih R1
end

structure PermP (ops ops':Array Oper) (π ρ:Nat→Nat):Prop where
 size:ops'.size=ops.size
 at_:∀ (i:Nat) (o:Oper),ops[i]?=some o→ops'[π i]?=some (zcm π o)
 fwd:∀ i,i<ops.size→π i<ops.size∧ρ (π i)=i
 bwd:∀ j,j<ops.size→ρ j<ops.size∧π (ρ j)=j
 edges:∀ (i:Nat) (o:Oper),ops[i]?=some o→∀ e∈o.after,Region.binds .any e=true→e.on<ops.size

section
variable {P : Program} {ops ops' : Array Oper} {π ρ : Nat → Nat} {Q : Exit → Act → World → Prop}
theorem zxc (H:PermP ops ops' π ρ) (o:Oper) (hg:∀ g,o.guard=some g→g.1<ops.size) (tm:Array Value):Region.wanted (zcm π o) (yielded ops' tm)=Region.wanted o (yielded ops tm):=by
 unfold Region.wanted zcm
 cases h:o.guard with
 | none=>rfl
 | some g =>
  obtain ⟨j,w⟩:=g
  have hj:j<ops.size:=hg _ h
  have ho:=H.at_ j ops[j] (Array.getElem?_eq_getElem hj)
  simp only [Option.map_some]
  unfold yielded
  rw [ho,Array.getElem?_eq_getElem hj]
  rfl
theorem zxd (H:PermP ops ops' π ρ) {i:Nat} (hi:i<ops.size) (hg:∀ (i:Nat) (o:Oper),ops[i]?=some o→∀ g,o.guard=some g→g.1<ops.size) {K K':Act→World→Prop} (hK:∀ a w,K' a w→K a w) {a:Act} {w:World} (h:wpOp P ops' Q (π i) K' a w):wpOp P ops Q i K a w:=by
 have ho:=Array.getElem?_eq_getElem hi
 unfold wpOp at *
 rw [H.at_ i ops[i] ho] at h
 rw [ho]
 simp only [] at *
 rw [zxc H ops[i] (hg i _ ho)] at h
 split
 ·rename_i hw
  rw [if_pos hw] at h
  rcases h with h | h
  ·exact .inl (Oper.wp_mono hK h)
  ·exact .inr h
 ·rename_i hw
  rw [if_neg hw] at h
  exact hK _ _ h
theorem zxe (H:PermP ops ops' π ρ) (hg:∀ (i:Nat) (o:Oper),ops[i]?=some o→∀ g,o.guard=some g→g.1<ops.size) :
  ∀ (fuel:Nat) (L L':Array Bool) (a:Act) (w:World),L.size=ops.size→L'.size=ops.size→(∀ i,i<ops.size→L'.getD (π i) false=L.getD i false)→wpAny P .any ops' Q fuel L' a w→wpAny P .any ops Q fuel L a w:=by
 have flip:∀ (L:Array Bool) (i:Nat),L.size=ops.size→i<ops.size→L.getD i true=L.getD i false:=fun L i h hi=>by
  simp [Array.getD_eq_getD_getElem?,show i<L.size by omega]
 have rdy:∀ (L L':Array Bool),L.size=ops.size→L'.size=ops.size→(∀ i,i<ops.size→L'.getD (π i) false=L.getD i false)→∀ i,i∈Region.ready .any ops L→π i∈Region.ready .any ops' L'∧i<ops.size:=by
  intro L L' hs hs' hL i hi
  obtain ⟨h1,o,ho,h2⟩:=mem_ready.1 hi
  have hlt:i<ops.size:=(Array.getElem?_eq_some_iff.1 ho).1
  refine ⟨mem_ready.2 ⟨?_,zcm π o,H.at_ i o ho,fun e he hb=>?_⟩,hlt⟩
  ·rw [flip L' _ hs' (H.fwd i hlt).1,hL i hlt,← flip L i hs hlt]; exact h1
  ·obtain ⟨e0,he0,rfl⟩:=Array.mem_map.1 he
   have hb0:Region.binds .any e0=true:=hb
   show L'.getD (π e0.on) false=true
   rw [hL _ (H.edges i o ho e0 he0 hb0)]
   exact h2 e0 he0 hb0
 have back:∀ (L L':Array Bool),L.size=ops.size→L'.size=ops.size→(∀ i,i<ops.size→L'.getD (π i) false=L.getD i false)→Region.ready .any ops L=[]→Region.ready .any ops' L'=[]:=by
  intro L L' hs hs' hL h0
  refine List.eq_nil_iff_forall_not_mem.2 fun j hj=>?_
  obtain ⟨h1,o',ho',h2⟩:=mem_ready.1 hj
  have hlt:j<ops.size:=by rw [← H.size]; exact (Array.getElem?_eq_some_iff.1 ho').1
  obtain ⟨b1,b2⟩:=H.bwd j hlt
  have ho:=Array.getElem?_eq_getElem b1
  have hat:=H.at_ _ _ ho
  rw [b2,ho'] at hat
  have:ρ j∈Region.ready .any ops L:=mem_ready.2 ⟨by rw [flip L _ hs b1,← hL _ b1,b2,← flip L' j hs' hlt]; exact h1,_,ho,fun e he hb=>by
   rw [← hL _ (H.edges _ _ ho e he hb)]
   refine h2 ⟨π e.on,e.ground⟩ ?_ hb
   rw [Option.some.inj hat]
   exact Array.mem_map.2 ⟨e,he,rfl⟩⟩
  rw [h0] at this; cases this
 intro fuel
 induction fuel with
 | zero =>
  intro L L' a w hs hs' hL h
  refine ⟨?_,h.2⟩
  refine List.eq_nil_iff_forall_not_mem.2 fun i hi=>?_
  have:=(rdy L L' hs hs' hL i hi).1
  rw [h.1] at this; cases this
 | succ fuel ih =>
  intro L L' a w hs hs' hL h
  refine ⟨fun h0=>h.1 (back L L' hs hs' hL h0),fun i hi=>?_⟩
  obtain ⟨hr,hlt⟩:=rdy L L' hs hs' hL i hi
  refine zxd H hlt hg (fun a w hk=>ih (L.setIfInBounds i true) (L'.setIfInBounds (π i) true) a w (by simpa using hs) (by simpa using hs') (fun t ht=>?_) hk) (h.2 (π i) hr)
  by_cases hti:t=i
  ·subst hti
   simp [Array.getD_eq_getD_getElem?,show t<L.size by omega,show π t<L'.size by rw [hs']; exact (H.fwd t ht).1]
  ·have hne:π i≠π t:=fun e=>hti (by rw [← (H.fwd t ht).2,← e,(H.fwd i hlt).2])
   have:=hL t ht
   simp only [Array.getD_eq_getD_getElem?] at this ⊢
   rw [Array.getElem?_setIfInBounds_ne hne,Array.getElem?_setIfInBounds_ne (fun e=>hti e.symm)]
   exact this
end
section
variable {P : Program} {α β : Type}
def AH (P:Program) (s:Sem α):Prop:=∀ w,∃ c w',s.run P w=.halt c w'
def Stl (P:Program) (s:Sem α):Prop:=(∃ x,∀ w,s.run P w=.ok x w)∨AH P s
theorem AH.right {s:Sem α} {f:α→Sem β} (h:∀ x,AH P (f x)):AH P (s >>= f):=by
 intro w
 rw [Sem.run_bind]
 cases hr:s.run P w with
 | ok x w1=>obtain ⟨c,w',h'⟩:=h x w1; exact ⟨c,w',by simp only [Result.andThen_ok]; exact h'⟩
 | halt c w1=>exact ⟨c,w1,rfl⟩
theorem AH.left {s:Sem α} {f:α→Sem β} (h:AH P s):AH P (s >>= f):=by
 intro w
 rw [Sem.run_bind]
 obtain ⟨c,w',h'⟩:=h w
 exact ⟨c,w',by rw [h']; rfl⟩
theorem Stl.bind {s:Sem α} {f:α→Sem β} (h:Stl P s) (k:∀ x,Stl P (f x)):Stl P (s >>= f):=by
 rcases h with ⟨x,hx⟩ | h
 ·rcases k x with ⟨y,hy⟩ | hk
  ·exact .inl ⟨y,fun w=>by rw [Sem.run_bind,hx w]; exact hy w⟩
  ·refine .inr fun w=>?_
   obtain ⟨c,w',h'⟩:=hk w
   exact ⟨c,w',by rw [Sem.run_bind,hx w]; exact h'⟩
 ·exact .inr h.left
theorem Stl.pure (x:α):Stl P (pure x:Sem α):=.inl ⟨x,fun w=>rfl⟩
theorem Stl.stuck (m:String):Stl P (stuck m:Sem α):=.inr fun w=>⟨_,_,rfl⟩
theorem Stl.unsupported (u:Unsupported):Stl P (unsupported u:Sem α):=.inr fun w=>⟨_,_,rfl⟩
theorem zde (t:TypeId):Stl P (underlying t):=by
 cases h:P.underlying t with
 | none => refine .inr fun w => ⟨.stuck "no such type", w, ?_⟩; simp [underlying, Sem.run_bind, h]
 | some d=>exact .inl ⟨d,fun w=>run_underlying h w⟩
theorem zxf (t:TypeId):Stl P (typeInfo t):=by
 cases h:P.info? t with
 | none => refine .inr fun w => ⟨.stuck "no such type", w, ?_⟩; simp [typeInfo, Sem.run_bind, h]
 | some d=>refine .inl ⟨d,fun w=>?_⟩; simp [typeInfo,Sem.run_bind,h]
theorem zfp (t:TypeId):Stl P (sizeOf t):=(zxf t).bind fun i=>Stl.pure _
theorem znn (v:Value):Stl P (asIntOf v):=by
 unfold asIntOf
 split
 ·exact .pure _
 ·exact .unsupported _
 ·exact .stuck _
theorem zno (v:Value):Stl P (Instr.sureAddr v):=by
 unfold Instr.sureAddr
 split
 ·exact .pure _
 ·exact .stuck _
theorem znp (x y:Int) (s:Bool) (c:BoundsCode):AH P (runtimePanic (.bounds x y s c):Sem α):=by
 unfold runtimePanic
 refine AH.right fun p=>?_
 intro w
 exact ⟨_,_,rfl⟩
theorem zjc (k:IntKind) (x y:Int) (c:BoundsCode):AH P (boundsPanic k x y c:Sem α):=by
 unfold boundsPanic
 simp only []
 split
 ·exact AH.right fun b=>znp _ _ _ _
 ·exact AH.right fun b=>znp _ _ _ _
theorem zjd (t:TypeId) (n:Int) (k:IntKind) (z:Option Addr×Nat×TypeId):Stl P (do
  let (base,len,elem):=z
  let tiny:=len≤1&&(match ← underlying t with | .array ..=>true | _=>false)
  match base with
  | some a =>
   if 0≤n∧n<len then pure (.pointer (some (a.add (n.toNat*(← sizeOf elem)))))
   else if tiny then unsupported (.noEntry "op/indexAddr.an index out of range at an array of length 0 or 1 (ledger 616)")
   else boundsPanic k n len .index
  | none=>boundsPanic k n 0 .index:Sem Value):=by
 obtain ⟨base,len,elem⟩:=z
 refine (zde t).bind fun d=>?_
 simp only []
 split
 ·split
  ·exact (zfp _).bind fun s=>.pure _
  ·split <;> split <;> first | exact .unsupported _ | exact .inr (zjc _ _ _ _)
 ·exact .inr (zjc _ _ _ _)
theorem zxg:AH P (runtimePanic .nilDeref:Sem α):=by
 unfold runtimePanic
 refine AH.right fun p=>?_
 intro w
 exact ⟨_,_,rfl⟩
theorem zxh (v:Value):Stl P (asAddr v):=by
 unfold asAddr
 split
 ·exact .pure _
 ·exact .inr zxg
 ·exact .stuck _
theorem zje (v:Value) (y:Nat) (c:BoundsCode):Stl P (Instr.sliceBound v y c):=by
 unfold Instr.sliceBound
 refine (znn v).bind fun z=>?_
 obtain ⟨k,i⟩:=z
 simp only []
 split
 ·exact .pure _
 ·exact .inr (zjc _ _ _ _)
theorem zfq (b:Bool) (len cap:Nat) (lo hi:Option Value):Stl P (Instr.sliceBounds b len cap lo hi none):=by
 unfold Instr.sliceBounds
 refine (Stl.pure cap).bind fun m=>?_
 cases hi with
 | none =>
  refine (Stl.pure len).bind fun h=>?_
  cases lo with
  | none=>exact (Stl.pure 0).bind fun l=>.pure _
  | some v=>exact (zje _ _ _).bind fun l=>.pure _
 | some v =>
  refine (zje _ _ _).bind fun h=>?_
  cases lo with
  | none=>exact (Stl.pure 0).bind fun l=>.pure _
  | some v=>exact (zje _ _ _).bind fun l=>.pure _
theorem zxi (t:TypeId) (x:Value) (lo hi:Option Value):Stl P (Instr.slice t x lo hi none):=by
 unfold Instr.slice
 refine (zde t).bind fun d=>?_
 split
 ·simp only [Option.isSome_none,Bool.false_eq_true,if_false]
  exact (zfq _ _ _ _ _).bind fun z=>.pure _
 ·exact (zfq _ _ _ _ _).bind fun z=>(zfp _).bind fun s=>.pure _
 ·refine (zxh _).bind fun a=>(zde _).bind fun d=>?_
  split
  ·exact (zfq _ _ _ _ _).bind fun z=>(zfp _).bind fun s=>.pure _
  ·exact .stuck _
 ·exact .stuck _
theorem zxj (t:TypeId) (x:Value) (lo hi:Option Value):Stl P (Instr.sliceAt t x lo hi none):=by
 unfold Instr.sliceAt
 refine (zde t).bind fun d=>?_
 split
 ·exact (zno _).bind fun a=>(zfq _ _ _ _ _).bind fun z=>(zfp _).bind fun s=>.pure _
 ·exact zxi _ _ _ _
theorem zxk (t:TypeId) (x i:Value):Stl P (Instr.indexAt t x i):=by
 unfold Instr.indexAt
 refine (znn i).bind fun z=>?_
 obtain ⟨k,n⟩:=z
 refine (zde t).bind fun d=>?_
 simp only []
 split
 ·exact (zno _).bind fun a=>(Stl.pure _).bind fun z=>zjd t n k z
 ·exact (Stl.pure _).bind fun z=>zjd t n k z
 ·exact (Stl.stuck _).bind fun z=>zjd t n k z
end
section
variable {P : Program} {E : Env} {w0 : World} {ok O : Nat → Prop} {σ : St} {tm : Array Value} {w : World} {M : Map} {a : Act}
theorem zxl (t:TypeId) (v:Value) (i:Nat) (h:∀ ad,v≠.pointer (some ad)):AH P (Instr.fieldAt t v i):=by
 have hs:AH P (Instr.sureAddr v):=by
  unfold Instr.sureAddr
  split
  ·rename_i ad; exact absurd rfl (h ad)
  ·intro w; exact ⟨_,_,rfl⟩
 have stk:∀ {α:Type} (m:String),AH P (stuck m:Sem α):=fun m w=>⟨_,_,rfl⟩
 unfold Instr.fieldAt
 refine AH.right fun d=>?_
 split
 ·split
  ·exact AH.left hs
  ·exact stk _
 ·exact stk _
theorem zxm (T:zb P E.ti=true) {t:TypeId} {i:Nat} {p:List Bool} {f:TypeId} {c:Nat} (h:E.field t i=some (p,f,c)) {v u:Value} {w w':World} (hr:(Instr.fieldAt t v i).run P w=.ok u w') (w2:World):(Instr.fieldAt t v i).run P w2=.ok u w2:=by
 by_cases hv:∃ ad,v=.pointer (some ad)
 ·obtain ⟨ad,rfl⟩:=hv
  rw [zcy T h ad w] at hr
  cases hr
  exact zcy T h ad w2
 ·obtain ⟨c,w3,h3⟩:=zxl (P:=P) t v i (fun ad e=>hv ⟨ad,e⟩) w
  rw [h3] at hr; cases hr
theorem zxn (R:Rep E w0 ok O σ tm w M) (hat:a.tmps=tm) {o:Oper} {x:Operand} (hop:o.op=.nilCheck x) {out:Out} (h:ze E σ o=some out):(∃ ad,a.eval x=.pointer (some ad))∨(∃ g caps,a.eval x=.func (.func g) #[] caps):=by
 unfold ze z12 at h
 rw [hop] at h
 simp only [] at h
 split at h
 ·rename_i t y hs
  obtain ⟨v,hv,hr⟩:=z4l R hat hs rfl
  obtain ⟨ad,ds,he,_⟩:=hr
  cases he
  exact .inl ⟨ad,hv⟩
 ·rename_i i p c hs
  obtain ⟨cs,h2,h3⟩:=(zz R hat hs).1
  rcases h3 with ⟨h4,_⟩ | ⟨_,rfl⟩
  ·cases h4
  ·simp only [za,List.cons.injEq,and_true] at h2
   exact .inl ⟨_,h2⟩
 ·rename_i i p n f c hs
  obtain ⟨cs,⟨e,t,l,g,_,_,_,h2⟩,h3⟩:=(zz R hat hs).1
  rcases h3 with ⟨h4,_⟩ | ⟨_,rfl⟩
  ·cases h4
  ·simp only [List.cons.injEq,and_true] at h2
   exact .inl ⟨_,h2⟩
 ·rename_i g c hs
  obtain ⟨cs,⟨caps,h2,_⟩,h3⟩:=(zz R hat hs).1
  rcases h3 with ⟨h4,_⟩ | ⟨_,rfl⟩
  ·cases h4
  ·simp only [List.cons.injEq,and_true] at h2
   exact .inr ⟨_,_,h2⟩
 ·rename_i g c y hs
  obtain ⟨v,hv,hr⟩:=z4l R hat hs rfl
  obtain ⟨caps,he,_⟩:=hr
  cases he
  exact .inr ⟨_,_,hv⟩
 ·rename_i ids y hs
  obtain ⟨v,hv,hr⟩:=z4l R hat hs rfl
  obtain ⟨he,_⟩:=hr
  cases he
  exact .inr ⟨_,_,hv⟩
 ·cases h
theorem zxo {o:Oper} {t:TypeId} {p q:Operand} (hop:o.op=.indexAddr t p q) {x:Out} (h:ze E σ o=some x):x.2.1=[]∧x.2.2=[]:=by
 unfold ze z12 at h
 rw [hop] at h
 simp only [] at h
 split at h
 ·split at h
  ·rename_i u xs
   cases hz:(Nat.beq (Ty.sz _) (E.elemSz t)&&!Nat.beq (Ty.sz _) 0) <;> rw [hz] at h
   ·cases h
   ·simp only [cond_true] at h
    split at h
    ·obtain ⟨z,hx,h⟩:=Option.bind_eq_some_iff.1 h
     cases h; exact ⟨rfl,rfl⟩
    ·cases h
  ·rw [zy] at h
   obtain ⟨v,hv,h⟩:=Option.bind_eq_some_iff.1 h
   split at h
   ·cases hz:(Nat.beq (Ty.sz _) (E.elemSz t)&&!Nat.beq (Ty.sz _) 0) <;> rw [hz] at h
    ·cases h
    ·simp only [cond_true] at h
     split at h
     ·cases h; exact ⟨rfl,rfl⟩
     ·cases h
   ·cases h
  ·split at h
   ·rename_i r hr
    cases hz:(Nat.beq r.t.sz (E.elemSz t)&&!Nat.beq r.t.sz 0) <;> rw [hz] at h
    ·cases h
    ·simp only [cond_true] at h
     split at h
     ·cases h; exact ⟨rfl,rfl⟩
     ·cases h
   ·cases h
  ·split at h
   ·rename_i b hb
    cases hz:(Nat.beq (E.tyOf b.ty).sz (E.elemSz t)&&(!Nat.beq (E.elemSz t) 0&&b.c.isCh)) <;> rw [hz] at h
    ·cases h
    ·simp only [cond_true] at h
     split at h
     ·cases h; exact ⟨rfl,rfl⟩
     ·cases h
   ·cases h
  ·cases h
 ·cases h
theorem zxp {o:Oper} {p:Operand} (hop:o.op=.nilCheck p) {x:Out} (h:ze E σ o=some x):x.2.1=[]∧x.2.2=[]:=by
 unfold ze z12 at h
 rw [hop] at h
 simp only [] at h
 split at h <;> first | (cases h; exact ⟨rfl,rfl⟩) | cases h
theorem zxq {o:Oper} {t:TypeId} {p:Operand} {i:Nat} (hop:o.op=.fieldAddr t p i) {x:Out} (h:ze E σ o=some x):(∃ y,E.field t i=some y)∧x.2.1=[]∧x.2.2=[]:=by
 unfold ze z12 at h
 rw [hop] at h
 simp only [] at h
 split at h
 ·rename_i p' f c hf
  refine ⟨⟨_,hf⟩,?_⟩
  split at h
  ·split at h
   ·rename_i v z hp
    cases hb:Nat.beq ((SV.val _ _).inside.offP p') c <;> rw [hb] at h
    ·cases h
    ·cases h; exact ⟨rfl,rfl⟩
   ·cases h
  ·cases h; exact ⟨rfl,rfl⟩
  ·cases h; exact ⟨rfl,rfl⟩
  ·cases h
 ·cases h
theorem zxr {o:Oper} {t:TypeId} {p:Operand} {lo hi:Option Operand} (hop:o.op=.slice t p lo hi none) {x:Out} (h:ze E σ o=some x):x.2.1=[]∧x.2.2=[]:=by
 unfold ze z12 at h
 rw [hop] at h
 simp only [Option.isSome_none,cond_false] at h
 split at h
 ·cases hz:E.isStr t <;> rw [hz] at h
  ·cases h
  simp only [Bool.not_true,cond_false] at h
  rw [z2x] at h
  obtain ⟨l,hl,h⟩:=Option.bind_eq_some_iff.1 h
  rw [z2x] at h
  obtain ⟨u,hu,h⟩:=Option.bind_eq_some_iff.1 h
  split at h
  ·cases h; exact ⟨rfl,rfl⟩
  ·cases h
 ·rename_i e u s hs
  cases hz:(Nat.beq u.sz (E.elemSz t)&&!Nat.beq u.sz 0) <;> rw [hz] at h
  ·cases h
  simp only [Bool.not_true,cond_false] at h
  rw [z2x] at h
  obtain ⟨l,hl,h⟩:=Option.bind_eq_some_iff.1 h
  rw [z2x] at h
  obtain ⟨u,hu,h⟩:=Option.bind_eq_some_iff.1 h
  split at h
  ·cases h; exact ⟨rfl,rfl⟩
  ·cases h
 ·split at h
  ·rename_i r hr
   cases hz:(Nat.beq r.t.sz (E.elemSz t)&&!Nat.beq r.t.sz 0) <;> rw [hz] at h
   ·cases h
   simp only [Bool.not_true,cond_false] at h
   rw [z2x] at h
   obtain ⟨l,hl,h⟩:=Option.bind_eq_some_iff.1 h
   rw [z2x] at h
   obtain ⟨u,hu,h⟩:=Option.bind_eq_some_iff.1 h
   split at h
   ·cases h; exact ⟨rfl,rfl⟩
   ·cases h
  ·cases h
 ·split at h
  ·rename_i r hr
   cases hz:(Nat.beq r.t.sz (E.elemSz t)&&!Nat.beq r.t.sz 0) <;> rw [hz] at h
   ·cases h
   simp only [Bool.not_true,cond_false] at h
   rw [z2x] at h
   obtain ⟨l,hl,h⟩:=Option.bind_eq_some_iff.1 h
   rw [z2x] at h
   obtain ⟨u,hu,h⟩:=Option.bind_eq_some_iff.1 h
   split at h
   ·cases h; exact ⟨rfl,rfl⟩
   ·cases h
  ·cases h
 ·cases h
theorem sub_val (R:Rep E w0 ok O σ tm w M) (hat:a.tmps=tm) {o:Oper} {t u:TypeId} {p q:Operand} (hop:o.op=.binOp .sub t p q u) {x:Out} (h:ze E σ o=some x):∃ k n m,a.eval p=.int k n∧a.eval q=.int k m∧x=(.val (.int k) (k.wrap (n-m)),[],[]):=by
 unfold ze z12 at h
 rw [hop] at h
 simp only [] at h
 split at h
 ·rename_i sx sy hx hy
  rw [zy] at h
  obtain ⟨⟨t1,x1⟩,h1,h⟩:=Option.bind_eq_some_iff.1 h
  rw [zy] at h
  obtain ⟨⟨t2,x2⟩,h2,h⟩:=Option.bind_eq_some_iff.1 h
  obtain ⟨cs,hr1,hw1⟩:=z65 R hat hx h1
  obtain ⟨ds,hr2,hw2⟩:=z65 R hat hy h2
  simp only [] at h h1 h2 hr1 hr2 hw1 hw2
  rw [zeu] at h
  obtain ⟨v,hv,h⟩:=Option.bind_eq_some_iff.1 h
  cases h
  unfold bin z5j at hv
  split at hv
  ·rename_i c k l x1 x2 _
   simp only [] at hv
   split at hv
   ·rename_i hk
    subst hk
    simp only [z7t] at hv
    cases hv
    exact ⟨k,_,_,z86 hr1 hw1,z86 hr2 hw2,rfl⟩
   ·cases hv
  all_goals (try (split at hv))
  all_goals (try (cases hv; done))
  all_goals (try (split at hv))
  all_goals (try (cases hv; done))
  all_goals (try (split at hv))
  all_goals (try (cases hv; done))
  all_goals (try (split at hv))
  all_goals (try (cases hv; done))
  all_goals (try (split at hv))
  all_goals (try (cases hv; done))
  all_goals (try (split at hv))
  all_goals (try (cases hv; done))
  all_goals (first | (simp at hv; done) | trace_state)
 all_goals (first | (cases h; done) | trace_state)
theorem zxs (R:Rep E w0 ok O σ a.tmps w M) (T:zb P E.ti=true) {o:Oper} {x:Out} (hm:z91 o=true) (h:ze E σ o=some x) :
  o.guard=none∧∃ v u,x=(v,[],[])∧(∀ w,(execOp a.eval o).run P w=.ok (.value u) w)∧zi w0 ok M v u∧Live σ v:=by
 simp only [z91,Bool.and_eq_true] at hm
 obtain ⟨hg,hm⟩:=hm
 refine ⟨Option.isNone_iff_eq_none.1 hg,?_⟩
 have fin:∀ v w' M',(∀ w2,(execOp a.eval o).run P w2=.ok (.value v) w2)→Ext E w0 ok σ w M x.1 x.2.1 x.2.2 v w' M'→x.2.1=[]∧x.2.2=[]→∃ v u,x=(v,[],[])∧(∀ w,(execOp a.eval o).run P w=.ok (.value u) w)∧zi w0 ok M v u∧Live σ v:=by
  intro v w' M' hrun h2 hx
  obtain ⟨xs,xr,xb⟩:=x
  obtain ⟨rfl,rfl⟩:=hx
  refine ⟨xs,v,rfl,hrun,?_,?_⟩
  ·exact zii (M:=M') ⟨fun i _=>(h2.locO i rfl).symm,fun i _=>⟨(h2.blkO i rfl).1.symm,(h2.blkO i rfl).2.1.symm,(h2.blkO i rfl).2.2.symm⟩⟩ h2.val
  ·exact ⟨fun i hi=>(h2.live.1 i hi).resolve_right (fun ⟨r,hr⟩=>nomatch hr),fun i hi=>(h2.live.2 i hi).resolve_right (fun ⟨r,hr⟩=>nomatch hr)⟩
 split at hm
 ·rename_i t p q hop
  obtain ⟨v,w',M',h1,h2⟩:=zmc R rfl T hop h
  refine fin v w' M' (fun w2=>?_) h2 (zxo hop h)
  have e:execOp a.eval o=(do let r ← Instr.indexAt t (a.eval p) (a.eval q); pure (.value r)):=by unfold execOp; rw [hop]
  rw [e,Sem.run_bind] at h1 ⊢
  rcases zxk (P:=P) t (a.eval p) (a.eval q) with ⟨y,hy⟩ | hh
  ·rw [hy w] at h1
   rw [hy w2]
   simp only [Result.andThen_ok,Sem.run_pure] at h1 ⊢
   cases h1; rfl
  ·obtain ⟨c,w3,h3⟩:=hh w
   rw [h3] at h1; cases h1
 ·rename_i t p i hop
  obtain ⟨v,w',M',h1,h2⟩:=zmb R rfl T hop h
  obtain ⟨⟨⟨p',f,c⟩,hf⟩,hx⟩:=zxq hop h
  refine fin v w' M' (fun w2=>?_) h2 hx
  have e:execOp a.eval o=(do let r ← Instr.fieldAt t (a.eval p) i; pure (.value r)):=by unfold execOp; rw [hop]
  rw [e,Sem.run_bind] at h1 ⊢
  cases hr:(Instr.fieldAt t (a.eval p) i).run P w with
  | ok y w3 =>
   rw [hr] at h1
   simp only [Result.andThen_ok,Sem.run_pure] at h1
   cases h1
   rw [zxm T hf hr w2]
   rfl
  | halt c w3=>rw [hr] at h1; cases h1
 ·rename_i p hop
  obtain ⟨v,w',M',h1,h2⟩:=zm9 (P:=P) R rfl hop h
  refine fin v w' M' (fun w2=>?_) h2 (zxp hop h)
  have hv:=zxn R rfl hop h
  unfold execOp at h1 ⊢
  rw [hop] at h1 ⊢
  rcases hv with ⟨ad,hv⟩ | ⟨g,caps,hv⟩ <;> simp only [hv] at h1 ⊢ <;> (cases h1; rfl)
 ·rename_i t p lo hi hop
  obtain ⟨v,w',M',h1,h2⟩:=zmh R rfl T hop h
  refine fin v w' M' (fun w2=>?_) h2 (zxr hop h)
  have e:execOp a.eval o=(do let r ← Instr.sliceAt t (a.eval p) (lo.map a.eval) (hi.map a.eval) none; pure (.value r)):=by unfold execOp; rw [hop]; rfl
  rw [e,Sem.run_bind] at h1 ⊢
  rcases zxj (P:=P) t (a.eval p) (lo.map a.eval) (hi.map a.eval) with ⟨y,hy⟩ | hh
  ·rw [hy w] at h1
   rw [hy w2]
   simp only [Result.andThen_ok,Sem.run_pure] at h1 ⊢
   cases h1; rfl
  ·obtain ⟨c,w3,h3⟩:=hh w
   rw [h3] at h1; cases h1
 ·rename_i t p q u hop
  obtain ⟨k,n,m,e1,e2,rfl⟩:=sub_val R rfl hop h
  have hrun:∀ w2,(execOp a.eval o).run P w2=.ok (.value (.int k (k.wrap (n-m)))) w2:=fun w2=>by
   have hg:eqGuard .sub t p q (.int k n) (.int k m)=pure ():=rfl
   unfold execOp
   rw [hop]
   simp only [e1,e2,hg,binOp,ne_eq,not_true_eq_false,if_false]
   rfl
  obtain ⟨v,w',M',h1,h2⟩:=(z10.val (t:=.int k) (x:=k.wrap (n-m)) rfl rfl (hrun w):z10 P E w0 ok σ w M a o (.val (.int k) (k.wrap (n-m)),[],[]))
  refine fin v w' M' (fun w2=>?_) h2 ⟨rfl,rfl⟩
  rw [hrun w] at h1
  cases h1
  exact hrun w2
 ·cases hm
end

section
variable {P : Program} {ops : Array Oper} {Q : Exit → Act → World → Prop} {S S' : (World → Prop) → Prop} {B : Nat → Prop}

def z1r (P:Program) (ops:Array Oper) (Q:Exit→Act→World→Prop) (S:(World→Prop)→Prop) (B:Nat→Prop):Nat→Array Bool→Act→World→Prop
 | 0,listed,a,w=>Region.ready .any ops listed=[]∧Q .normal a w
 | fuel+1,listed,a,w =>
  (Region.ready .any ops listed=[]→Q .normal a w) ∧
  ∀ i∈Region.ready .any ops listed,wpOp P ops Q i (fun a' w'=>(∀ p,S p→B i→p w→p w')∧z1r P ops Q S B fuel (listed.setIfInBounds i true) a' w') a w

theorem z1r.any:∀ {fuel:Nat} {listed:Array Bool} {a:Act} {w:World},z1r P ops Q S B fuel listed a w→wpAny P .any ops Q fuel listed a w
 | 0,_,_,_,h=>h
 | fuel+1,_,_,_,h=>⟨h.1,fun i hi=>wpOp_mono (fun a' w' h'=>z1r.any h'.2) (h.2 i hi)⟩
theorem z1r.mono (hSS:∀ p,S p→S' p):∀ {fuel:Nat} {listed:Array Bool} {a:Act} {w:World},z1r P ops Q S' B fuel listed a w→z1r P ops Q S B fuel listed a w
 | 0,_,_,_,h=>h
 | fuel+1,_,_,_,h=>⟨h.1,fun i hi=>wpOp_mono (fun a' w' h'=>⟨fun p hp=>h'.1 p (hSS p hp),z1r.mono hSS h'.2⟩) (h.2 i hi)⟩
theorem z1r.imp0 {B':Nat→Prop} (hS:∀ p,¬ S p):∀ {fuel:Nat} {listed:Array Bool} {a:Act} {w:World},z1r P ops Q S' B' fuel listed a w→z1r P ops Q S B fuel listed a w
 | 0,_,_,_,h=>h
 | fuel+1,_,_,_,h=>⟨h.1,fun i hi=>wpOp_mono (fun a' w' h'=>⟨fun p hp=>absurd hp (hS p),z1r.imp0 hS h'.2⟩) (h.2 i hi)⟩
theorem zjf {L:Array Bool} {i:Nat} (h:i∈Region.ready .any ops L):L.getD i false=false:=by
 have h0:=(mem_ready.1 h).1
 rcases Nat.lt_or_ge i L.size with h' | h'
 ·simpa [Array.getD_eq_getD_getElem?,h'] using h0
 ·simp [Array.getD_eq_getD_getElem?,h']
theorem z1r.of:∀ {fuel:Nat} {listed:Array Bool} {a:Act} {w:World},(∀ j,B j→listed.getD j false=true)→wpAny P .any ops Q fuel listed a w→z1r P ops Q S B fuel listed a w
 | 0,_,_,_,_,h=>h
 | fuel+1,listed,_,_,hl,h=>⟨h.1,fun i hi=>wpOp_mono (fun a' w' h'=>⟨fun p _ hb=>(by
   have h2:=hl i hb
   rw [zjf hi] at h2; cases h2),z1r.of (fun j hj=>getD_set_true (hl j hj)) h'⟩) (h.2 i hi)⟩

def zb5 (ops:Array Oper) (L:Array Bool):Prop:=∀ j o,L.getD j false=true→ops[j]?=some o→∀ e∈o.after,Region.binds .any e=true→L.getD e.on false=true
theorem zb5.step {L:Array Bool} {i:Nat} (h:zb5 ops L) (hi:i∈Region.ready .any ops L):zb5 ops (L.setIfInBounds i true):=by
 intro j o hj ho e he hb
 by_cases hij:j=i
 ·subst hij
  obtain ⟨_,o',ho',hall⟩:=mem_ready.1 hi
  rw [ho] at ho'; cases ho'
  exact getD_set_true (hall e he hb)
 ·rw [getD_set_ne false (Ne.symm hij)] at hj
  exact getD_set_true (h j o hj ho e he hb)

theorem znq {i:Nat} {oi:Oper} {v:Value} {p0:World→Prop} (hSS:∀ p,S p→S' p) (hi:ops[i]?=some oi) (hsel:∀ (j:Nat) (o:Oper) cs b,ops[j]?=some o→o.op≠.select cs b)
  (hQ:∀ c a w,Q (.panic c) (a.put oi.dst v) w→Q (.panic c) a w)
  (hBw:(∀ w,p0 w)∨S' p0∧∀ L,zb5 ops L→L.getD i false=false→∀ j∈Region.ready .any ops L,B j) :
  ∀ (fuel:Nat) (listed:Array Bool) (a:Act) (w:World),
   (∀ j oj,ops[j]?=some oj→j≠i→listed.getD j true=false→(∀ e∈oj.after,Region.binds .any e=true→e.on≠i)→oi.apart ops oj=true) →
   zb5 ops listed→i∈Region.ready .any ops listed→YieldsIf P ops p0 oi v a→p0 w →
   z1r P ops Q S' B fuel (listed.setIfInBounds i true) (a.put oi.dst v) w→z1r P ops Q S B (fuel+1) listed a w:=by
 intro fuel
 induction fuel with
 | zero =>
  intro listed a w _ hcl hr hy hS H
  refine ⟨fun h=>(by rw [h] at hr; cases hr),fun j hj=>?_⟩
  by_cases hji:j=i
  ·subst hji; exact hy.wpOp hi hS ⟨fun p _ _ h=>h,H⟩
  ·have:=ready_mono hj hji
   rw [H.1] at this
   cases this
 | succ fuel ih =>
  intro listed a w hfree hcl hr hy hS H
  refine ⟨fun h=>(by rw [h] at hr; cases hr),fun j hj=>?_⟩
  by_cases hji:j=i
  ·subst hji; exact hy.wpOp hi hS ⟨fun p _ _ h=>h,H.mono hSS⟩
  ·have h1:=H.2 j (ready_mono hj hji)
   obtain ⟨hjun,oj,hoj,hall⟩:=mem_ready.1 hj
   have hnot:∀ e∈oj.after,Region.binds .any e=true→e.on≠i:=fun e he hb heq=>by
    have h1:=hall e he hb
    rw [heq,zjf hr] at h1; cases h1
   have h2:=wpOp_putIf hoj (hfree j oj hoj hji hjun hnot) (fun cs b=>hsel i oi cs b hi) (fun cs b=>hsel j oj cs b hoj) hQ hy h1
   have hfree':∀ k ok,ops[k]?=some ok→k≠i→(listed.setIfInBounds j true).getD k true=false →
     (∀ e∈ok.after,Region.binds .any e=true→e.on≠i)→oi.apart ops ok=true:=fun k ok hk hki hun hno=>by
    refine hfree k ok hk hki ?_ hno
    by_cases hjk:j=k
    ·subst hjk; exact hjun
    ·rw [getD_set_ne true hjk] at hun; exact hun
   refine wpOp_mono (fun a' w' h3=>⟨fun p hp=>h3.2.1 p (hSS p hp),ih (listed.setIfInBounds j true) a' w' hfree' (hcl.step hj) (ready_mono hr (Ne.symm hji)) h3.1 (hBw.elim (fun h=>h w') fun h=>h3.2.1 p0 h.1 (h.2 listed hcl (zjf hr) j hj) hS) ?_⟩) h2
   rw [Array.setIfInBounds_comm _ _ hji]
   exact h3.2.2

def z5q (d:Option Tmp) (tm tm':Array Value):Prop:=∀ s,d≠some s→tm'[s]?=tm[s]?
theorem z5q.put (a:Act) (d:Option Tmp) (v:Value):z5q d a.tmps (a.put d v).tmps:=by
 intro s hs
 cases d with
 | none=>rfl
 | some d =>
  have hne:d≠s:=fun e=>hs (by rw [e])
  simp [Act.put,Array.getElem?_setIfInBounds_ne hne]
theorem Oper.wp_same {o:Oper} {a:Act} {w:World} {K:Act→World→Prop} (hQ:∀ c a w,¬ Q (.panic c) a w) (h:o.wp P a w K Q):o.wp P a w (fun a' w'=>z5q o.dst a.tmps a'.tmps∧K a' w') Q:=by
 unfold Oper.wp at *
 generalize (execOp a.eval o).run P w=r at *
 cases r with
 | ok n w' =>
  cases n <;> simp only [Oper.upon] at h ⊢
  case value u=>exact ⟨.put a o.dst u,h⟩
  case skip=>exact ⟨.put a o.dst _,h⟩
  case defer d=>exact ⟨z5q.put { a with defers:=d::a.defers } o.dst _,h⟩
  case enter f args =>
   refine _root_.Go.Calls.mono h fun e w'' he=>?_
   cases e with
   | returned u=>exact ⟨.put a o.dst u,he⟩
   | panicked c=>exact absurd he (hQ _ _ _)
   | outgrown=>exact he
  case row row args=>exact Rows.mono h fun u w'' he=>⟨.put a o.dst u,he⟩
 | halt x w'=>cases x <;> simp only [Oper.upon] at h ⊢ <;> exact h
theorem zxt {i:Nat} {o:Oper} (ho:ops[i]?=some o) {a:Act} {w:World} {K:Act→World→Prop} (hQ:∀ c a w,¬ Q (.panic c) a w) (h:wpOp P ops Q i K a w):wpOp P ops Q i (fun a' w'=>z5q o.dst a.tmps a'.tmps∧K a' w') a w:=by
 unfold wpOp at *
 rw [ho] at h ⊢
 simp only [] at *
 split
 ·rename_i hw
  rw [if_pos hw] at h
  exact h.imp (fun h=>Oper.wp_same hQ h) id
 ·rename_i hw
  rw [if_neg hw] at h
  exact ⟨.put a o.dst _,h⟩
end
end Go.Proofs.YtjbnebolfnjneaaGreatDoor.Ev
