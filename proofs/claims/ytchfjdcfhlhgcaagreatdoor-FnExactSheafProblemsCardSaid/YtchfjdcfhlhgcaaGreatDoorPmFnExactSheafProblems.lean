/- Plain laws of the printed functions. No conditions but those in each statement. -/
import Derived.Test.YtchfjdcfhlhgcaaGreatDoorEv6
import Derived.Test.YtchfjdcfhlhgcaaGreatDoorG11
set_option linter.unusedVariables false
set_option linter.unusedSimpArgs false
namespace Go.Proofs.YtchfjdcfhlhgcaaGreatDoor.Ev
open Go.RowKit
theorem z6x (n a b:Int):z3z n a b=some (decide (a≤n∧n≤b)):=by
 unfold z3z
 by_cases h:a≤n <;> simp [h]
theorem z7r (n a b:Int):z32 n a b=some (decide (a≤n∧n≤b)):=by
 unfold z32
 by_cases h:a≤n <;> simp [h]
theorem z14r {k:Nat} {p:Int} (hp:p≤251):∀ (m d n:Nat),17-d≤m→2≤d→m<n→d≤17→∃ b,z8l k n p (d:Int) (some true)=some b∧z8u k n p (d:Int) (some true)=some b
 | m,d,0,_,_,h,_=>by omega
 | 0,d,n+1,h,h2,_,h4=>by
  have hd:d=17:=by omega
  subst hd
  have w1:z6 (((17:Nat):Int)*((17:Nat):Int))=289:=by rw [ze (by omega) (by omega)]; rfl
  have hc:¬ ((289:Int)≤p):=by omega
  refine ⟨true,?_,?_⟩
  ·unfold z8l; rw [w1,decide_eq_false hc,if_neg (by simp)]
  ·unfold z8u; rw [w1,decide_eq_false hc,if_neg (by simp)]
 | m+1,d,n+1,h,h2,hn,h4=>by
  by_cases hc:z6 ((d:Int)*(d:Int))≤p
  ·have hd0:¬ ((d:Int)=0):=by omega
   have hw:=zd (i:=d) (by omega)
   by_cases hm:Int.tmod p (d:Int)=0
   ·refine ⟨false,?_,?_⟩
    ·unfold z8l; rw [decide_eq_true hc,if_pos rfl,if_neg hd0,decide_eq_true hm,if_pos rfl]
    ·unfold z8u; rw [decide_eq_true hc,if_pos rfl,if_neg hd0,decide_eq_true hm,if_pos rfl]
   ·by_cases h17:d=17
    ·subst h17
     have w1:z6 (((17:Nat):Int)*((17:Nat):Int))=289:=by rw [ze (by omega) (by omega)]; rfl
     rw [w1] at hc; omega
    ·obtain ⟨b,h5,h6⟩:=z14r (k:=k) hp m (d+1) n (by omega) (by omega) (by omega) (by omega)
     refine ⟨b,?_,?_⟩
     ·rw [← h5]; conv=>lhs; unfold z8l
      rw [yb hc,y4 rfl,y5 hd0,ya hm,y5 (by simp),hw]
     ·rw [← h6]; conv=>lhs; unfold z8u
      rw [yb hc,y4 rfl,y5 hd0,ya hm,y5 (by simp),hw]
  ·refine ⟨true,?_,?_⟩
   ·unfold z8l; rw [decide_eq_false hc,if_neg (by simp)]
   ·unfold z8u; rw [decide_eq_false hc,if_neg (by simp)]
theorem z14s {k:Nat} (hk:KK≤k) (p:Int):∃ b,zbm k p=some b∧zff k p=some b∧(b=true→2≤p∧p≤251):=by
 have hK:=zg
 unfold zbm zr0 zff
 rw [z7r,z6x]
 by_cases h:2≤p∧p≤251
 ·obtain ⟨b,h1,h2⟩:=z14r (k:=k) (p:=p) h.2 15 2 k (by omega) (by omega) (by omega) (by omega)
  have h1:z8l k k p 2 (some true)=some b:=h1
  have h2:z8u k k p 2 (some true)=some b:=h2
  refine ⟨b,?_,?_,fun _=>h⟩
  ·simp [h,h1]
  ·simp [h,h2]
 ·exact ⟨false,by simp [h],by simp [h],fun h=>by cases h⟩
theorem zg5 {α:Type} (p:α→Bool) (xs:List α):decide (0≤zhm p xs)=xs.any p:=by
 unfold zhm
 cases h:xs.findIdx? p with
 | some i =>
  obtain ⟨hlt,hp,_⟩:=List.findIdx?_eq_some_iff_getElem.1 h
  have:xs.any p=true:=y3h.2 ⟨_,y1l hlt,hp⟩
  rw [this]; simp
 | none =>
  rw [y62] at h
  have:xs.any p=false:=y38.2 fun x hx=>by rw [h x hx]; simp
  rw [this]; simp
abbrev Mat:=Int×Int×Int×List Int
theorem zia {k:Nat} (hk:KK≤k) {v:List Int} (hv:v.length≤1048576) (n:Int) {p:Int} (hp : -1000000≤p∧p≤1000000):z6w k v n p=some (v.all (fun x=>decide (0≤x∧x≤p-1))&&decide ((v.length:Int)=n)):=by
 have hK:=zg
 have hw1:z6 (p-1)=p-1:=ze (by omega) (by omega)
 unfold z6w
 have:=zqx (L:=fun m i=>zeu k m v n p i (fun v_3 n_4=>some (decide ((List.length v_3:Int)=n_4)))) (p:=fun x=>decide (0≤x∧x≤p-1)) (r:=some false) (e:=some (decide ((v.length:Int)=n))) v ?_ ?_ (n:=k) (by omega)
 ·refine this.trans ?_
  cases v.all (fun x=>decide (0≤x∧x≤p-1)) <;> simp
 ·intro m i x hx hlt
  have hw:=zd (i:=i) (by omega)
  simp only [zeu,hlt,y9,y7,yg,ye,hx,y6,z7r,hw1,hw]
  by_cases c:0≤x∧x≤p-1 <;> simp [c]
 ·intro m
  simp only [zeu,yw,yf,yc,y8]
theorem z14t {k:Nat} (hk:KK≤k) {v:List Int} (hv:v.length≤1048576) {p:Int} (hp : -1000000≤p∧p≤1000000):zi2 k v p=some (v.all (fun x=>decide (0≤x∧x≤p-1))):=by
 have hK:=zg
 have hw1:z6 (p-1)=p-1:=ze (by omega) (by omega)
 unfold zi2 zrt zrs
 rw [zbg (L:=fun n i=>zfm k n v p (v.length:Int) i (some (-1))) (p:=fun x=>!decide (0≤x∧x≤p-1)) v ?_ ?_ (n:=k) (by omega)]
 ·simp only [y6,zg5]
  congr 1
  rw [← List.not_all_eq_any_not,Bool.not_not]
 ·intro n i x hi hlt
  have hw:=zd (i:=i) (by omega)
  simp only [zfm,zrr,z5x,z6x,hw1,hlt,y9,y7,yg,ye,hi,y6,hw]
 ·intro n
  simp [zfm]
structure MatP (m:Mat) (R C:Nat):Prop where
 rows:m.2.1=(R:Int)
 cols:m.2.2.1=(C:Int)
 r32:R≤32
 c32:C≤32
 len:m.2.2.2.length=R*C
 prime:2≤m.1∧m.1≤251
 cells:∀ x∈m.2.2.2,0≤x∧x≤250
 lt:∀ x∈m.2.2.2,x<m.1
theorem z1mc {k:Nat} (hk:KK≤k) {m:Mat} (hv:m.2.2.2.length≤1048576):∃ b,zez k m=some b∧zi3 k m=some b∧(b=true→∃ R C,MatP m R C):=by
 obtain ⟨b,h1,h2,h3⟩:=z14s hk m.1
 unfold zez zi3 zn4 z7m
 rw [h1,h2]
 cases b
 ·exact ⟨false,by simp,by simp,fun h=>by cases h⟩
 ·have hp:=h3 rfl
  simp only [y6,y7,z7r,z6x,zia hk hv _ (show -1000000≤m.1∧m.1≤1000000 by omega),z14t hk hv (show -1000000≤m.1∧m.1≤1000000 by omega)]
  by_cases c1:0≤m.2.1∧m.2.1≤32
  ·by_cases c2:0≤m.2.2.1∧m.2.2.1≤32
   ·rw [yb c1,yb c2,y4 rfl,y4 rfl,y4 rfl,y4 rfl]
    obtain ⟨R,hR⟩:=y4i c1.1
    obtain ⟨C,hC⟩:=y4i c2.1
    have hRC:R*C≤32*32:=y1p (by omega) (by omega)
    have hw:z6 (m.2.1*m.2.2.1)=((R*C:Nat):Int):=by
     rw [hR,hC,← y3q]
     exact ze (by omega) (by omega)
    rw [hw]
    refine ⟨m.2.2.2.all (fun x=>decide (0≤x∧x≤m.1-1))&&decide ((m.2.2.2.length:Int)=((R*C:Nat):Int)),rfl,?_,fun h=>?_⟩
    ·by_cases c3:(m.2.2.2.length:Int)=((R*C:Nat):Int)
     ·rw [yb c3,y4 rfl,y4t]
     ·rw [ya c3,y5 (by simp),y4x]
    ·simp only [yh,y17,y1d] at h
     exact ⟨R,C,hR,hC,by omega,by omega,by omega,hp,fun x hx=>by have:=h.1 x hx; omega,fun x hx=>by have:=h.1 x hx; omega⟩
   ·exact ⟨false,by simp [c1,c2],by simp [c1,c2],fun h=>by cases h⟩
  ·exact ⟨false,by simp [c1],by simp [c1],fun h=>by cases h⟩
def z4k (cells:List Int) (C r:Nat):List Int:=(cells.drop (r*C)).take C
theorem zg6 {cells:List Int} {R C r:Nat} (hl:cells.length=R*C) (hr:r<R):(z4k cells C r).length=C:=by
 unfold z4k
 rw [y1c,y1y,hl]
 have:(r+1)*C≤R*C:=y1z _ hr
 rw [y2a] at this
 omega
theorem z14u {cells:List Int} {C r c:Nat} (hc:c<C):(z4k cells C r)[c]?=cells[r*C+c]?:=by
 unfold z4k
 rw [y1n hc,y39]
theorem z1md {a:List Int} (ha:a.length≤1048576):znd a=some a:=by
 have hL:=z1q
 unfold znd
 have h:(([]:List Unit).length+a.length)*8≤LIM:=by simp only [y3f]; omega
 rw [y4 h]
 cases a with
 | nil=>simp [zgk]
 | cons x l=>simp
theorem z14v {k:Nat} (hk:KK≤k) {m:Mat} {R C:Nat} (h:MatP m R C):zi5 k m=some ((List.range R).map (z4k m.2.2.2 C)):=by
 have hK:=zg
 have hLI:=z1q
 have h32:=h.c32
 have hr32:=h.r32
 unfold zi5
 have:=z26 (α:=Nat) (A:=List (List Int)) (L:=fun n i q=>zfp k n m.2.1 i q m (fun q_4=>some q_4)) (I:=fun pre q=>q=pre.map (z4k m.2.2.2 C)) (G:=fun _ _=>some ((List.range R).map (z4k m.2.2.2 C))) (List.range R) ?_ ?_ k (by rw [y15]; omega) [] rfl
 ·exact this
 ·intro n pre x post q hx hq ih hg hlt
  rw [y15] at hlt
  have hr:pre.length<R:=by omega
  have hxe:x=pre.length:=by rw [List.getElem?_range hr] at hg; simpa using hg.symm
  have hw:=zd (i:=pre.length) (by omega)
  have hlt':(pre.length:Int)<m.2.1:=by rw [h.rows]; omega
  have h1:(pre.length+1)*C≤R*C:=y1z _ hr
  have h2:R*C≤32*32:=y1p hr32 h32
  have h3:(pre.length+1)*C=pre.length*C+C:=y2a _ _
  have hm1:z6 ((pre.length:Int)*m.2.2.1)=((pre.length*C:Nat):Int):=by rw [h.cols,← y3q]; exact ze (by omega) (by omega)
  have hm2:z6 (((pre.length+1:Nat):Int)*m.2.2.1)=(((pre.length+1)*C:Nat):Int):=by rw [h.cols,← y3q]; exact ze (by omega) (by omega)
  have hrow:z7o m (pre.length:Int)=some (z4k m.2.2.2 C pre.length):=by
   unfold z7o
   rw [hm1,hw,hm2,y4 ⟨by omega,by omega,by rw [h.len]; omega⟩,ye,ye,show (pre.length+1)*C-pre.length*C=C by omega]
   rfl
  have hrl:=zg6 h.len hr
  have hql:q.length=pre.length:=by rw [hq,yp]
  have b1:(q.length+1)*24≤LIM:=by omega
  subst hxe
  simp only [zfp,hlt',y9,y7,hrow,y6,z1md (show (z4k m.2.2.2 C pre.length).length≤1048576 by omega),yy,b1,hw]
  exact ih _ (by rw [hq]; simp)
 ·intro n q hq
  have:¬ ((List.range R).length:Int)<m.2.1:=by rw [h.rows,y15]; omega
  subst hq
  simp only [zfp,this,yf,yc,y8]
def z16 (C:Nat) (f:Nat→Nat→Int) (i:Nat):List Int:=(List.range C).map (f i)
def z1p (R C:Nat) (f:Nat→Nat→Int):List (List Int):=(List.range R).map (z16 C f)
def zz (R C:Nat) (f:Nat→Nat→Int):List Int:=(List.range (R*C)).map fun (t:Nat)=>f (t / C) (t % C)
theorem zoa (C:Nat) (f:Nat→Nat→Int) (i:Nat):(z16 C f i).length=C:=by simp [z16]
theorem z7s (R C:Nat) (f:Nat→Nat→Int):(z1p R C f).length=R:=by simp [z1p]
theorem z40 (R C:Nat) (f:Nat→Nat→Int):(zz R C f).length=R*C:=by simp [zz]
theorem zcn {C:Nat} (f:Nat→Nat→Int) (i:Nat) {j:Nat} (h:j<C):(z16 C f i)[j]?=some (f i j):=by unfold z16; rw [List.getElem?_map,List.getElem?_range h]; rfl
theorem z6a {R C:Nat} (f:Nat→Nat→Int) {i:Nat} (h:i<R):(z1p R C f)[i]?=some (z16 C f i):=by unfold z1p; rw [List.getElem?_map,List.getElem?_range h]; rfl
theorem ixl {R C i j:Nat} (hi:i<R) (hj:j<C):i*C+j<R*C:=by
 have:(i+1)*C≤R*C:=y1z _ hi
 rw [y2a] at this
 omega
theorem dm {C i j:Nat} (hj:j<C):(i*C+j) / C=i∧(i*C+j) % C=j:=by
 constructor
 ·rw [y3x,Nat.mul_add_div (by omega),Nat.div_eq_of_lt hj,y2o]
 ·rw [y3x,Nat.mul_add_mod,Nat.mod_eq_of_lt hj]
theorem z6y {R C:Nat} (f:Nat→Nat→Int) {i j:Nat} (hi:i<R) (hj:j<C):(zz R C f)[i*C+j]?=some (f i j):=by
 unfold zz
 rw [yu,y26 (ixl hi hj)]
 have:=dm (i:=i) hj
 rw [y20,this.1,this.2]
theorem zib {C:Nat} {f g:Nat→Nat→Int} {i i':Nat} (h:∀ j,j<C→f i j=g i' j):z16 C f i=z16 C g i':=y3b fun j hj=>h j (y1a.1 hj)
theorem zsf {R C:Nat} {f g:Nat→Nat→Int} (h:∀ i j,i<R→j<C→f i j=g i j):z1p R C f=z1p R C g:=y3b fun i hi=>zib fun j hj=>h i j (y1a.1 hi) hj
theorem zco {R C:Nat} {f g:Nat→Nat→Int} (h:∀ i j,i<R→j<C→f i j=g i j):zz R C f=zz R C g:=y3b fun t ht=>by
 have ht:=y1a.1 ht
 have hC:0<C:=by
  rcases y48 C with h0 | h0
  ·subst h0; simp at ht
  ·exact h0
 exact h _ _ (Nat.div_lt_of_lt_mul (by rw [y3x]; exact ht)) (y4m _ hC)
theorem zob {R C:Nat} (f g:Nat→Nat→Int) {i:Nat} (i':Nat) (hi:i<R):(z1p R C f).set i (z16 C g i')=z1p R C (fun x j=>if x=i then g i' j else f x j):=by
 refine y3o fun x=>?_
 rw [y4s,z7s]
 by_cases hx:x<R
 ·rw [z6a _ hx,z6a _ hx]
  by_cases e:i=x
  ·subst e
   rw [y4 rfl,y4 hx]
   congr 1
   exact zib fun j _=>by rw [y4 rfl]
  ·rw [y5 e]
   congr 1
   exact zib fun j _=>by rw [y5 (fun h=>e h.symm)]
 ·rw [y2v (by rw [z7s]; omega),y2v (by rw [z7s]; omega),y5 (by omega)]
def z7t (f:Nat→Nat→Int) (i j:Nat) (v:Int):Nat→Nat→Int:=fun x y=>if x=i∧y=j then v else f x y
theorem zoc {R C:Nat} (f:Nat→Nat→Int) {i j:Nat} (v:Int) (hi:i<R) (hj:j<C):(zz R C f).set (i*C+j) v=zz R C (z7t f i j v):=by
 refine y3o fun t=>?_
 rw [y4s,z40]
 by_cases ht:t<R*C
 ·unfold zz
  rw [yu,yu,y26 ht]
  simp only [y20]
  by_cases e:i*C+j=t
  ·subst e
   have:=dm (i:=i) hj
   rw [y4 rfl,y4 ht,this.1,this.2]
   unfold z7t
   rw [y4 ⟨rfl,rfl⟩]
  ·rw [y5 e]
   unfold z7t
   rw [y5 (fun h=>e (by rw [← h.1,← h.2,y3x]; exact y56 t C))]
 ·rw [y2v (by rw [z40]; omega),y2v (by rw [z40]; omega),y5 (by have:=ixl hi hj; omega)]
def z1j (f:Nat→Nat→Int) (c:Nat):Nat→Nat→Nat
 | 0,at_=>at_
 | d+1,at_=>if f at_ c=0 then z1j f c d (at_+1) else at_
theorem zod (f:Nat→Nat→Int) (c:Nat):∀ d at_,at_≤z1j f c d at_∧z1j f c d at_≤at_+d
 | 0,at_=>⟨yr _,yr _⟩
 | d+1,at_=>by
  have:=zod f c d (at_+1)
  unfold z1j
  split <;> omega
def swF (f:Nat→Nat→Int) (a b:Nat):Nat→Nat→Int:=fun i j=>if i=a then f b j else if i=b then f a j else f i j
def scF (f:Nat→Nat→Int) (p:Int) (a:Nat) (v:Int):Nat→Nat→Int:=fun i j=>if i=a then Int.tmod (v*f a j) p else f i j
def clF (f:Nat→Nat→Int) (p:Int) (t c n:Nat):Nat→Nat→Int:=fun i j=>if i<n∧i≠t∧f i c≠0 then Int.tmod (f i j+(p-f i c)*f t j) p else f i j
def BdF (p:Int) (f:Nat→Nat→Int):Prop:=∀ i j,0≤f i j∧f i j<p
theorem z14w {p:Int} (hp:2≤p) {x:Int} (hx:0≤x):0≤Int.tmod x p∧Int.tmod x p<p:=by
 rw [y34 hx]
 exact ⟨y3r _ (by omega),y3s _ (by omega)⟩
theorem zic {p:Int} {f:Nat→Nat→Int} (h:BdF p f) (a b:Nat):BdF p (swF f a b):=fun i j=>by unfold swF; split; exact h _ _; split; exact h _ _; exact h _ _
theorem zid {p:Int} (hp:2≤p) {f:Nat→Nat→Int} (h:BdF p f) (a:Nat) {v:Int} (hv:0≤v):BdF p (scF f p a v):=fun i j=>by
 unfold scF
 split
 ·exact z14w hp (y3j hv (h a j).1)
 ·exact h i j
theorem z1me {p:Int} (hp:2≤p) {f:Nat→Nat→Int} (h:BdF p f) (t c n:Nat):BdF p (clF f p t c n):=fun i j=>by
 unfold clF
 split
 ·have h1:=h i j
  have h2:=h i c
  have h3:=h t j
  exact z14w hp (Int.add_nonneg h1.1 (y3j (by omega) h3.1))
 ·exact h i j
theorem z14x {p:Int} {f:Nat→Nat→Int} (t c n j:Nat):clF f p t c n t j=f t j:=by unfold clF; rw [if_neg (fun h=>h.2.1 rfl)]
theorem zsg {p:Int} {f:Nat→Nat→Int} (t c n j:Nat):clF f p t c n n j=f n j:=by unfold clF; rw [if_neg (fun h=>Nat.lt_irrefl _ h.1)]
theorem zoe {p:Int} {f:Nat→Nat→Int} {t c n:Nat} (h:n=t∨f n c=0):clF f p t c (n+1)=clF f p t c n:=by
 funext i j
 unfold clF
 by_cases e:i<n∧i≠t∧f i c≠0
 ·rw [y4 e,y4 ⟨by omega,e.2⟩]
 ·rw [y5 e,y5]
  rintro ⟨h1,h2,h3⟩
  have:i=n:=by
   rcases y22 i n with h4 | h4
   ·exact absurd ⟨h4,h2,h3⟩ e
   ·omega
  subst this
  rcases h with h | h
  ·exact h2 h
  ·exact h3 h
theorem z14y {p:Int} {f:Nat→Nat→Int} {t c n:Nat} (h1:n≠t) (h2:f n c≠0):(fun i j=>if i=n then Int.tmod (f n j+(p-f n c)*f t j) p else clF f p t c n i j)=clF f p t c (n+1):=by
 funext i j
 unfold clF
 by_cases e:i=n
 ·subst e; rw [y4 rfl,y4 ⟨by omega,h1,h2⟩]
 ·rw [y5 e]
  by_cases e2:i<n∧i≠t∧f i c≠0
  ·rw [y4 e2,y4 ⟨by omega,e2.2⟩]
  ·rw [y5 e2,y5 (fun h=>e2 ⟨by omega,h.2⟩)]
theorem zac {S R:Type} {L:Nat→Int→S→R} {b:Nat} {st:Nat→S} {e:R} (h1:∀ n (i:Nat),i<b→L (n+1) (i:Int) (st i)=L n ((i+1:Nat):Int) (st (i+1))) (h2:∀ n,L (n+1) (b:Int) (st b)=e):∀ {n:Nat},b<n→L n 0 (st 0)=e:=by
 have key:∀ (d i n:Nat),i+d=b→d<n→L n (i:Int) (st i)=e:=by
  intro d
  induction d with
  | zero =>
   intro i n hi hn
   obtain ⟨n,rfl⟩:∃ m,n=m+1:=⟨n-1,by omega⟩
   have:i=b:=by omega
   subst this
   exact h2 n
  | succ d ih =>
   intro i n hi hn
   obtain ⟨n,rfl⟩:∃ m,n=m+1:=⟨n-1,by omega⟩
   rw [h1 n i (by omega)]
   exact ih (i+1) n (by omega) (by omega)
 intro n hn
 exact key b 0 n (by omega) hn
theorem z14z (x y p:Int):(x % p*y) % p=(x*y) % p:=by rw [y41,y5o,← y41]
theorem z150 (x y p:Int):(x*(y % p)) % p=(x*y) % p:=by rw [y41,y5o,← y41]
theorem z151 (x p:Int):∀ m:Nat,((x % p) ^ m) % p=(x ^ m) % p
 | 0=>by simp
 | m+1=>by rw [y3t,y3t,y41,z151 x p m,y5o,← y41]
theorem zcp {x p:Int} (h:0≤x):Int.tmod x p=x % p:=y34 h
def z8x (p a:Int):Int:=(a ^ (p-2).toNat) % p
theorem z8y {p:Int} (hp:2≤p) (a:Int):0≤z8x p a∧z8x p a<p:=⟨y3r _ (by omega),y3s _ (by omega)⟩
theorem zie {a p:Int} (hp:2≤p∧p≤251) (h:0≤a∧a<p) {b:Int} (hb:0≤b∧b<p):0≤a*b∧a*b≤62500 :=
 ⟨y3j h.1 hb.1,Int.le_trans (y4j (show a≤250 by omega) (show b≤250 by omega) hb.1 (by omega)) (by omega)⟩
theorem z152 {k:Nat} (hk:KK≤k) {a p:Int} (hp:2≤p∧p≤251) (ha:0≤a∧a<p):zhx k a p=some (z8x p a):=by
 have hK:=zg
 have key:∀ (d n:Nat) (out:Int),d<n→0≤out∧out<p→d≤251→zf8 k n a p out (d:Int) (fun out_1=>some out_1)=some ((out*a ^ d) % p):=by
  intro d
  induction d with
  | zero =>
   intro n out hn ho _
   obtain ⟨n,rfl⟩:∃ m,n=m+1:=⟨n-1,by omega⟩
   have:¬ (0:Int)<((0:Nat):Int):=by omega
   simp only [zf8,this,yf,yc,y8]
   rw [show out*a ^ 0=out by simp,y5p ho.1 ho.2]
  | succ d ih =>
   intro n out hn ho hd
   obtain ⟨n,rfl⟩:∃ m,n=m+1:=⟨n-1,by omega⟩
   have h0:(0:Int)<((d+1:Nat):Int):=by omega
   have b:=zie hp ho ha
   have hw:z6 (((d+1:Nat):Int)-1)=(d:Int):=by rw [ze (by omega) (by omega)]; omega
   simp only [zf8,h0,y9,y7,hw]
   rw [y5 (by omega),ze (by omega) (by omega),zcp b.1,ih n _ (by omega) ⟨y3r _ (by omega),y3s _ (by omega)⟩ (by omega),z14z,y3t]
   congr 2
   rw [Int.mul_assoc,y4o a]
 unfold zhx
 have h1:z6 (p-2)=((p-2).toNat:Int):=by rw [ze (by omega) (by omega)]; omega
 rw [h1,key _ k 1 (by omega) ⟨by omega,by omega⟩ (by omega)]
 unfold z8x
 rw [Int.one_mul]
theorem z153 {k:Nat} (hk:KK≤k) {a p:Int} (hp:2≤p∧p≤251) (ha:0≤a∧a<p):zi9 k a p=some (z8x p a):=by
 have hK:=zg
 have key:∀ (n:Nat) (f:Nat) (a out:Int),n<f→0≤a∧a<p→0≤out∧out<p→n≤251→zcl k f a (n:Int) p out (fun out_1=>some out_1)=some ((out*a ^ n) % p):=by
  intro n
  induction n using Nat.strongRecOn with
  | _ n ih =>
   intro f a out hf ha ho hn
   obtain ⟨f,rfl⟩:∃ m,f=m+1:=⟨f-1,by omega⟩
   rcases y48 n with h0 | h0
   ·subst h0
    have:¬ (0:Int)<((0:Nat):Int):=by omega
    simp only [zcl,this,yf,yc,y8]
    rw [show out*a ^ 0=out by simp,y5p ho.1 ho.2]
   ·have h1:(0:Int)<(n:Int):=by omega
    have b:=zie hp ho ha
    have b2:=zie hp ha ha
    have e1:Int.tmod (n:Int) 2=((n % 2:Nat):Int):=by rw [zcp (by omega)]; omega
    have e2:z6 (Int.tdiv (n:Int) 2)=((n / 2:Nat):Int):=by
     rw [y50 (by omega),ze (by omega) (by omega)]; omega
    have hpn:¬ p=0:=by omega
    have sqb:0≤a*a % p∧a*a % p<p:=⟨y3r _ (by omega),y3s _ (by omega)⟩
    have sq:∀ z:Int,(z*(a*a % p) ^ (n / 2)) % p=(z*(a*a) ^ (n / 2)) % p:=fun z=>by
     rw [← z150,z151,z150]
    have pw:(a*a) ^ (n / 2)=a ^ (2*(n / 2)):=by rw [Int.pow_mul]; congr 1; rw [y3t,y3t,Int.pow_zero,Int.one_mul]
    simp only [zcl,h1,y9,y7,e1,e2,hpn,y8]
    rcases Nat.mod_two_eq_zero_or_one n with h2 | h2
    ·rw [h2,ya (by omega),y5 (by simp),ze (by omega) (by omega),zcp b2.1,ih (n / 2) (by omega) f _ _ (by omega) sqb ho (by omega),sq,pw,show 2*(n / 2)=n by omega]
    ·have ob:0≤out*a % p∧out*a % p<p:=⟨y3r _ (by omega),y3s _ (by omega)⟩
     rw [h2,yb (by omega),y4 rfl,ze (by omega) (by omega),ze (by omega) (by omega),zcp b2.1,zcp b.1,ih (n / 2) (by omega) f _ _ (by omega) sqb ob (by omega),sq,z14z,pw]
     congr 2
     rw [Int.mul_assoc]
     congr 1
     conv=>rhs; rw [show n=2*(n / 2)+1 by omega]
     rw [y3t,y4o]
 unfold zi9 zsd
 have h1:z6 (p-2)=((p-2).toNat:Int):=by rw [ze (by omega) (by omega)]; omega
 rw [h1,key _ k a 1 (by omega) ha ⟨by omega,by omega⟩ (by omega)]
 unfold z8x
 rw [Int.one_mul]
 rfl
theorem z8z {i C j:Nat} (hi:i≤64) (hC:C≤64) (hj:j≤64):z6 (z6 ((i:Int)*(C:Int))+(j:Int))=((i*C+j:Nat):Int):=by
 have:i*C≤64*64:=y1p hi hC
 rw [← y3q,ze (x:=((i*C:Nat):Int)) (by omega) (by omega),ze (by omega) (by omega)]
 omega
theorem z154 {k:Nat} (hk:KK≤k) {p v:Int} (hp:2≤p∧p≤251) (hv:0≤v∧v≤251) {C:Nat} (hC:C≤64) {g h:Nat→Int} (hg:∀ j,0≤g j∧g j<p) (hh:∀ j,0≤h j∧h j<p) :
  zaa k ((List.range C).map g) ((List.range C).map h) v p=some ((List.range C).map fun j=>Int.tmod (g j+v*h j) p):=by
 have hK:=zg
 have hL:=z1q
 unfold zaa
 rw [show (List.length ((List.range C).map g):Int)=(C:Int) by simp]
 refine zac (S:=List Int) (L:=fun n i q=>zg0 k n ((List.range C).map g) ((List.range C).map h) v p (C:Int) i q (fun q_4=>some q_4)) (b:=C) (st:=fun i=>(List.range i).map fun j=>Int.tmod (g j+v*h j) p) ?_ ?_ (n:=k) (by omega)
 ·intro n i hi
  have hlt:(i:Int)<(C:Int):=by omega
  have hw:=zd (i:=i) (by omega)
  have hgi:=hg i
  have hhi:=hh i
  have h1:v*h i≤251*250:=y4j hv.2 (show h i≤250 by omega) hhi.1 (by omega)
  have h2:0≤v*h i:=y3j hv.1 hhi.1
  have e1:z6 (v*h i)=v*h i:=ze (by omega) (by omega)
  have e2:z6 (g i+v*h i)=g i+v*h i:=ze (by omega) (by omega)
  have g1:((List.range C).map g)[i]?=some (g i):=by rw [yu,y26 hi]; rfl
  have g2:((List.range C).map h)[i]?=some (h i):=by rw [yu,y26 hi]; rfl
  have hpn:¬ p=0:=by omega
  have hl:((List.range i).length+1)*8≤LIM:=by rw [y15]; omega
  simp only [zg0,hlt,y9,y7,yg,ye,g1,g2,y6,e1,e2,hpn,y8,yp,yy,hl,hw]
  rw [y35,y25]
  rfl
 ·intro n
  simp only [zg0,yw,yf,yc,y8]
theorem z1mf {k:Nat} {m:Mat} {R C c:Nat} (hm:m.2.1=(R:Int)) (hR:R≤64) (hC:C≤64) (hc:c<C) (f:Nat→Nat→Int) (p det:Int) (row:Nat) (q5 q6:List Int) (u1 u2 u3 u4 u5 u6:Int) (E:(Int×Int×Int×List Int)→Int→Int→Int→Int→Int→Int→(List Int)→(List Int)→(List Int)→Int→Int→Int→Int→Int→Int→Option ((Int×Int×Int×List Int)×List Int×Int)) :
  ∀ (d at_ n:Nat),at_+d=R→d<n→zf9 k n m p (C:Int) det (row:Int) (c:Int) (at_:Int) q5 q6 (zz R C f) u1 u2 u3 u4 u5 u6 E=E m p (C:Int) det (row:Int) (c:Int) (z1j f c d at_:Int) q5 q6 (zz R C f) u1 u2 u3 u4 u5 u6:=by
 intro d
 induction d with
 | zero =>
  intro at_ n ha hn
  obtain ⟨n,rfl⟩:∃ m,n=m+1:=⟨n-1,by omega⟩
  have:¬ (at_:Int)<m.2.1:=by rw [hm]; omega
  simp only [zf9,this,yf,yc,y8,z1j]
 | succ d ih =>
  intro at_ n ha hn
  obtain ⟨n,rfl⟩:∃ m,n=m+1:=⟨n-1,by omega⟩
  have hlt:(at_:Int)<m.2.1:=by rw [hm]; omega
  have hi:at_<R:=by omega
  have hw:=zd (i:=at_) (by omega)
  have hx:=z8z (i:=at_) (C:=C) (j:=c) (by omega) hC (by omega)
  have hl:=ixl hi hc
  simp only [zf9,hlt,y9,y7,hx,yg,ye,z40,hl,yz,z6y f hi hc,y6,hw]
  by_cases h0:f at_ c=0
  ·rw [yb h0,y4 rfl,ih (at_+1) n (by omega) (by omega)]
   simp only [z1j,h0,y7]
  ·rw [ya h0,y5 (by simp)]
   simp only [z1j,h0,y8]
def z2u (f g:Nat→Nat→Int) (n:Nat):Nat→Nat→Int:=fun i j=>if j<n then g i j else f i j
theorem z1mg {f:Nat→Nat→Int} {a b n:Nat} (h:a≠b):z7t (z7t (z2u f (swF f a b) n) b n (f a n)) a n (f b n)=z2u f (swF f a b) (n+1):=by
 funext i j
 unfold z7t z2u swF
 by_cases hj:j=n
 ·subst hj
  rw [y4 (y3w _)]
  by_cases h1:i=a
  ·rw [y4 ⟨h1,rfl⟩,y4 h1]
  ·rw [y5 (fun e=>h1 e.1),y5 h1]
   by_cases h2:i=b
   ·rw [y4 ⟨h2,rfl⟩,y4 h2]
   ·rw [y5 (fun e=>h2 e.1),y5 h2,y5 (y23 _)]
 ·rw [y5 (fun e=>hj e.2),y5 (fun e=>hj e.2)]
  by_cases h1:j<n
  ·rw [y4 h1,y4 (show j<n+1 by omega)]
  ·rw [y5 h1,y5 (show ¬ j<n+1 by omega)]
theorem z1mh {k:Nat} (hk:KK≤k) {m:Mat} {R C c row at_:Nat} (hR:R≤64) (hC:C≤64) (hr:row<R) (ha:at_<R) (hne:row≠at_) (f:Nat→Nat→Int) (p det:Int) (q5 q6:List Int) (u1 u2 u3 u4 u5 u6:Int) (E:(Int×Int×Int×List Int)→Int→Int→Int→Int→Int→(List Int)→(List Int)→(List Int)→Int→Int→Int→Int→Int→Int→Option ((Int×Int×Int×List Int)×List Int×Int)) :
  zc2 k k m p (C:Int) det (row:Int) (c:Int) (at_:Int) 0 q5 q6 (zz R C f) u1 u2 u3 u4 u5 u6 E=E m p (C:Int) det (row:Int) (c:Int) q5 q6 (zz R C (swF f row at_)) u1 u2 u3 u4 u5 u6:=by
 have hK:=zg
 have e0:zz R C f=zz R C (z2u f (swF f row at_) 0):=zco fun i j _ _=>by unfold z2u; rw [if_neg (Nat.not_lt_zero _)]
 have e1:zz R C (swF f row at_)=zz R C (z2u f (swF f row at_) C):=zco fun i j _ hj=>by unfold z2u; rw [if_pos hj]
 rw [e0,e1]
 refine zac (S:=List Int) (L:=fun n j q=>zc2 k n m p (C:Int) det (row:Int) (c:Int) (at_:Int) j q5 q6 q u1 u2 u3 u4 u5 u6 E) (b:=C) (st:=fun j=>zz R C (z2u f (swF f row at_) j)) ?_ ?_ (n:=k) (by omega)
 ·intro n j hj
  have hlt:(j:Int)<(C:Int):=by omega
  have hw:=zd (i:=j) (by omega)
  have x1:=z8z (i:=at_) (C:=C) (j:=j) (by omega) hC (by omega)
  have x2:=z8z (i:=row) (C:=C) (j:=j) (by omega) hC (by omega)
  have l1:=ixl ha hj
  have l2:=ixl hr hj
  have v1:z2u f (swF f row at_) j at_ j=f at_ j:=by unfold z2u; rw [if_neg (Nat.lt_irrefl _)]
  have v2:z2u f (swF f row at_) j row j=f row j:=by unfold z2u; rw [if_neg (Nat.lt_irrefl _)]
  simp only [zc2,hlt,y9,y7,x1,x2,yg,ye,z40,l1,l2,yz,z6y _ ha hj,z6y _ hr hj,v1,v2,y6,hw,zoc _ _ ha hj,zoc _ _ hr hj,z1mg hne]
 ·intro n
  simp only [zc2,yw,yf,yc,y8]
theorem z1mi {f:Nat→Nat→Int} {p:Int} {a n:Nat} {v:Int}:z7t (z2u f (scF f p a v) n) a n (Int.tmod (v*f a n) p)=z2u f (scF f p a v) (n+1):=by
 funext i j
 unfold z7t z2u scF
 by_cases hj:j=n
 ·subst hj
  rw [y4 (y3w _)]
  by_cases h1:i=a
  ·rw [y4 ⟨h1,rfl⟩,y4 h1]
  ·rw [y5 (fun e=>h1 e.1),y5 h1,y5 (y23 _)]
 ·rw [y5 (fun e=>hj e.2)]
  by_cases h1:j<n
  ·rw [y4 h1,y4 (show j<n+1 by omega)]
  ·rw [y5 h1,y5 (show ¬ j<n+1 by omega)]
theorem z155 {k:Nat} (hk:KK≤k) {m:Mat} {R C c row:Nat} (hR:R≤64) (hC:C≤64) (hr:row<R) {f:Nat→Nat→Int} {p:Int} (hp:2≤p∧p≤251) (hf:BdF p f) {v:Int} (hv:0≤v∧v<p) (det:Int) (q5 q6:List Int) (u1 u2 u3 u4 u5 u6:Int) (E:(Int×Int×Int×List Int)→Int→Int→Int→Int→Int→(List Int)→(List Int)→(List Int)→Int→Int→Int→Int→Int→Int→Option ((Int×Int×Int×List Int)×List Int×Int)) :
  za3 k k m p (C:Int) det (row:Int) (c:Int) v 0 q5 q6 (zz R C f) u1 u2 u3 u4 u5 u6 E=E m p (C:Int) det (row:Int) (c:Int) q5 q6 (zz R C (scF f p row v)) u1 u2 u3 u4 u5 u6:=by
 have hK:=zg
 have e0:zz R C f=zz R C (z2u f (scF f p row v) 0):=zco fun i j _ _=>by unfold z2u; rw [if_neg (Nat.not_lt_zero _)]
 have e1:zz R C (scF f p row v)=zz R C (z2u f (scF f p row v) C):=zco fun i j _ hj=>by unfold z2u; rw [if_pos hj]
 rw [e0,e1]
 refine zac (S:=List Int) (L:=fun n j q=>za3 k n m p (C:Int) det (row:Int) (c:Int) v j q5 q6 q u1 u2 u3 u4 u5 u6 E) (b:=C) (st:=fun j=>zz R C (z2u f (scF f p row v) j)) ?_ ?_ (n:=k) (by omega)
 ·intro n j hj
  have hlt:(j:Int)<(C:Int):=by omega
  have hw:=zd (i:=j) (by omega)
  have x2:=z8z (i:=row) (C:=C) (j:=j) (by omega) hC (by omega)
  have l2:=ixl hr hj
  have v2:z2u f (scF f p row v) j row j=f row j:=by unfold z2u; rw [if_neg (Nat.lt_irrefl _)]
  have b:=zie hp (hf row j) hv
  have e:z6 (f row j*v)=v*f row j:=by rw [ze (by omega) (by omega),y4o]
  have hpn:¬ p=0:=by omega
  simp only [za3,hlt,y9,y7,x2,yg,ye,z40,l2,yz,z6y _ hr hj,v2,y6,hw,hpn,y8,e,zoc _ _ hr hj,z1mi]
 ·intro n
  simp only [za3,yw,yf,yc,y8]
theorem z1mj {p:Int} (hp:2≤p∧p≤251) {x y z:Int} (hx:0≤x∧x<p) (hy:0≤y∧y<p) (hz:0≤z∧z<p):zmd (z6 (x-(z6 (y*z)))) p=some (Int.tmod (x+(p-y)*z) p):=by
 have b:=zie hp hy hz
 have h0:¬ p=0:=by omega
 have e1:(p-y)*z=p*z-y*z:=Int.sub_mul _ _ _
 have b2:0≤(p-y)*z:=y3j (by omega) hz.1
 have w1:z6 (y*z)=y*z:=ze (by omega) (by omega)
 have w2:z6 (x-y*z)=x-y*z:=ze (by omega) (by omega)
 have h1:=Int.tmod_lt_of_pos (x-y*z) (show 0<p by omega)
 have h2:=Int.lt_tmod_of_pos (x-y*z) (show 0<p by omega)
 have w3:z6 (Int.tmod (x-y*z) p+p)=Int.tmod (x-y*z) p+p:=ze (by omega) (by omega)
 unfold zmd
 rw [y5 h0,y5 h0,w1,w2,w3,zcp (by omega),zcp (Int.add_nonneg hx.1 b2)]
 congr 1
 have s1:∀ z:Int,(z+p) % p=z % p:=fun z=>by have:=y5q z p 1; rwa [Int.mul_one] at this
 have e2:x+(p*z-y*z)=x-y*z+p*z:=by omega
 have:=Int.tmod_def (x-y*z) p
 rw [s1,e1,e2,y5q,this,show (x-y*z)-p*Int.tdiv (x-y*z) p=(x-y*z)+p*(- Int.tdiv (x-y*z) p) by rw [Int.mul_neg]; omega,y5q]
def clR (f:Nat→Nat→Int) (p:Int) (t c i n:Nat):Nat→Nat→Int:=fun x j=>if x=i∧j<n then Int.tmod (f i j+(p-f i c)*f t j) p else clF f p t c i x j
theorem z1mk {f:Nat→Nat→Int} {p:Int} {t c i n:Nat}:z7t (clR f p t c i n) i n (Int.tmod (f i n+(p-f i c)*f t n) p)=clR f p t c i (n+1):=by
 funext x j
 unfold z7t clR
 by_cases h:x=i∧j=n
 ·obtain ⟨rfl,rfl⟩:=h
  rw [y4 ⟨rfl,rfl⟩,y4 ⟨rfl,by omega⟩]
 ·rw [y5 h]
  by_cases h2:x=i∧j<n
  ·rw [y4 h2,y4 ⟨h2.1,by omega⟩]
  ·rw [y5 h2,y5 (fun h3=>by
    rcases y22 j n with h4 | h4
    ·exact h2 ⟨h3.1,h4⟩
    ·exact h ⟨h3.1,by omega⟩)]
theorem z156 {k:Nat} (hk:KK≤k) {m:Mat} {R C c row:Nat} (hm:m.2.1=(R:Int)) (hR:R≤64) (hC:C≤64) (hc:c<C) (hr:row<R) {f:Nat→Nat→Int} {p:Int} (hp:2≤p∧p≤251) (hf:BdF p f) (det:Int) (q5 q6:List Int) (u1 u2 u3 u4 u5 u6:Int) (E:(Int×Int×Int×List Int)→Int→Int→Int→Int→Int→(List Int)→(List Int)→(List Int)→Int→Int→Int→Int→Int→Int→Option ((Int×Int×Int×List Int)×List Int×Int)) :
  z7l k k m p (C:Int) det (row:Int) (c:Int) 0 q5 q6 (zz R C f) u1 u2 u3 u4 u5 u6 E=E m p (C:Int) det (row:Int) (c:Int) q5 q6 (zz R C (clF f p row c R)) u1 u2 u3 u4 u5 u6:=by
 have hK:=zg
 have e0:zz R C f=zz R C (clF f p row c 0):=zco fun i j _ _=>by unfold clF; rw [if_neg (fun h=>Nat.not_lt_zero _ h.1)]
 rw [e0]
 have inner:∀ (i:Nat),i<R→i≠row→f i c≠0→∀ (E:(Int×Int×Int×List Int)→Int→Int→Int→Int→Int→Int→(List Int)→(List Int)→(List Int)→Int→Int→Int→Int→Int→Int→Option ((Int×Int×Int×List Int)×List Int×Int)),
   zc1 k k m p (C:Int) det (row:Int) (c:Int) (i:Int) (f i c) 0 q5 q6 (zz R C (clF f p row c i)) u1 u2 u3 u4 u5 u6 E=E m p (C:Int) det (row:Int) (c:Int) (i:Int) q5 q6 (zz R C (clF f p row c (i+1))) u1 u2 u3 u4 u5 u6:=by
  intro i hi h1 h2 E
  have e0:zz R C (clF f p row c i)=zz R C (clR f p row c i 0):=zco fun x j _ _=>by unfold clR; rw [if_neg (fun h=>Nat.not_lt_zero _ h.2)]
  have e1:zz R C (clF f p row c (i+1))=zz R C (clR f p row c i C):=zco fun x j _ hj=>by
   have hs:=congrFun (congrFun (z14y (p:=p) h1 h2) x) j
   rw [← hs]
   unfold clR
   by_cases hx:x=i
   ·simp only [hx,y7,hj,yz]
   ·simp only [hx,y8,false_and]
  rw [e0,e1]
  refine zac (S:=List Int) (L:=fun n j q=>zc1 k n m p (C:Int) det (row:Int) (c:Int) (i:Int) (f i c) j q5 q6 q u1 u2 u3 u4 u5 u6 E) (b:=C) (st:=fun j=>zz R C (clR f p row c i j)) ?_ ?_ (n:=k) (by omega)
  ·intro n j hj
   have hlt:(j:Int)<(C:Int):=by omega
   have hw:=zd (i:=j) (by omega)
   have x1:=z8z (i:=i) (C:=C) (j:=j) (by omega) hC (by omega)
   have x2:=z8z (i:=row) (C:=C) (j:=j) (by omega) hC (by omega)
   have l1:=ixl hi hj
   have l2:=ixl hr hj
   have v1:clR f p row c i j i j=f i j:=by unfold clR; rw [if_neg (fun h=>Nat.lt_irrefl _ h.2),zsg]
   have v2:clR f p row c i j row j=f row j:=by unfold clR; rw [if_neg (fun h=>h1 h.1.symm),z14x]
   simp only [zc1,hlt,y9,y7,x1,x2,yg,ye,z40,l1,l2,yz,z6y _ hi hj,z6y _ hr hj,v1,v2,y6,hw,z1mj hp (hf i j) (hf i c) (hf row j),zoc _ _ hi hj,z1mk]
  ·intro n
   simp only [zc1,yw,yf,yc,y8]
 refine zac (S:=List Int) (L:=fun n i q=>z7l k n m p (C:Int) det (row:Int) (c:Int) i q5 q6 q u1 u2 u3 u4 u5 u6 E) (b:=R) (st:=fun i=>zz R C (clF f p row c i)) ?_ ?_ (n:=k) (by omega)
 ·intro n i hi
  have hlt:(i:Int)<m.2.1:=by rw [hm]; omega
  have hw:=zd (i:=i) (by omega)
  have x1:=z8z (i:=i) (C:=C) (j:=c) (by omega) hC (by omega)
  have l1:=ixl hi hc
  simp only [z7l,hlt,y9,y7,x1,yg,ye,z40,l1,yz,z6y _ hi hc,zsg,y6,hw]
  by_cases h1:i=row
  ·rw [yb (by omega),y4 rfl,zoe (.inl h1)]
  ·rw [ya (by omega),y5 (by simp)]
   by_cases h2:f i c=0
   ·rw [yb h2,y4 rfl,zoe (.inr h2)]
   ·rw [ya h2,y5 (by simp),inner i hi h1 h2]
    simp only [hw]
 ·intro n
  have:¬ (R:Int)<m.2.1:=by rw [hm]; omega
  simp only [z7l,this,yf,yc,y8]
def z6b (p:Int) (R:Nat) (f:Nat→Nat→Int) (c t:Nat):Nat→Nat→Int:=clF (scF (swF f t (z1j f c (R-t) t)) p t (z8x p (f (z1j f c (R-t) t) c))) p t c R
def gz (p:Int) (R:Nat):Nat→Nat→(Nat→Nat→Int)→List Int→(Nat→Nat→Int)×List Int
 | 0,_,f,P=>(f,P)
 | d+1,c,f,P=>if z1j f c (R-P.length) P.length=R then gz p R d (c+1) f P else gz p R d (c+1) (z6b p R f c P.length) (P++[(c:Int)])
theorem z157 (p:Int) (R:Nat):∀ d c f P,P.length=R→gz p R d c f P=(f,P)
 | 0,_,_,_,_=>rfl
 | d+1,c,f,P,h=>by
  unfold gz
  rw [h,y42,y4 (show z1j f c 0 R=R from rfl)]
  exact z157 p R d (c+1) f P h
theorem z158 {p:Int} (hp:2≤p∧p≤251) {R:Nat} {f:Nat→Nat→Int} (h:BdF p f) (c t:Nat):BdF p (z6b p R f c t):=z1me hp.1 (zid hp.1 (zic h _ _) _ (z8y hp.1 _).1) _ _ _
theorem z159 (f:Nat→Nat→Int) (t:Nat):swF f t t=f:=by
 funext i j
 unfold swF
 by_cases h:i=t
 ·rw [y4 h,h]
 ·rw [y5 h,y5 h]
theorem z1ml {k:Nat} (hk:KK≤k) {m:Mat} {R C:Nat} (hm:m.2.1=(R:Int)) (hR:R≤64) (hC:C≤64) {p:Int} (hp:2≤p∧p≤251) (q3:List Int) (u1 u2 u3 u4 u5 u6:Int) (E:Int→(List Int)→(List Int)→(List Int)→Int→Int→Int→Int→Int→Int→Option ((Int×Int×Int×List Int)×List Int×Int)) :
  ∀ (d c n:Nat) (f:Nat→Nat→Int) (P:List Int) (det:Int),c+d=C→d<n→BdF p f→P.length≤R→P.length≤c→∃ det',z8s k n m p (C:Int) det (P.length:Int) (c:Int) P q3 (zz R C f) u1 u2 u3 u4 u5 u6 E=E det' (gz p R d c f P).2 q3 (zz R C (gz p R d c f P).1) u1 u2 u3 u4 u5 u6:=by
 have hK:=zg
 have hL:=z1q
 intro d
 induction d with
 | zero =>
  intro c n f P det hc hn hf hP hPc
  obtain ⟨n,rfl⟩:∃ m,n=m+1:=⟨n-1,by omega⟩
  have:¬ (c:Int)<(C:Int):=by omega
  simp only [z8s,this,yf,yc,y8,gz]
  exact ⟨_,rfl⟩
 | succ d ih =>
  intro c n f P det hc hn hf hP hPc
  obtain ⟨n,rfl⟩:∃ m,n=m+1:=⟨n-1,by omega⟩
  have hlt:(c:Int)<(C:Int):=by omega
  have hcC:c<C:=by omega
  simp only [z8s,hlt,y9,y7]
  by_cases hr:P.length<R
  ·have hr':(P.length:Int)<m.2.1:=by rw [hm]; omega
   rw [yb hr',y4 rfl,z1mf hm hR hC hcC f p det P.length P q3 u1 u2 u3 u4 u5 u6 _ (R-P.length) P.length k (by omega) (by omega)]
   have hs:=zod f c (R-P.length) P.length
   have hw:=zd (i:=c) (by omega)
   have hw2:=zd (i:=P.length) (by omega)
   by_cases ha:z1j f c (R-P.length) P.length=R
   ·rw [yb (by rw [hm,ha]),y4 rfl,hw]
    obtain ⟨det',h⟩:=ih (c+1) n f P det (by omega) (by omega) hf hP (by omega)
    refine ⟨det',?_⟩
    rw [h]
    simp only [gz,ha,y7]
   ·rw [ya (by rw [hm]; omega),y5 (by simp)]
    have haR:z1j f c (R-P.length) P.length<R:=by omega
    have hx:=z8z (i:=P.length) (C:=C) (j:=c) (by omega) hC (by omega)
    have hl:=ixl hr hcC
    have hg:(gz p R (d+1) c f P)=gz p R d (c+1) (z6b p R f c P.length) (P++[(c:Int)]):=by simp only [gz,ha,y8]
    have hbl:(P.length+1)*8≤LIM:=by omega
    have hpn:¬ p=0:=by omega
    have hfa:=hf (z1j f c (R-P.length) P.length) c
    have hPl:((P++[(c:Int)]).length:Int)=((P.length+1:Nat):Int):=by rw [yl]; rfl
    have fin:∀ det,∃ det',z8s k n m p (C:Int) det ((P.length+1:Nat):Int) ((c+1:Nat):Int) (P++[(c:Int)]) q3 (zz R C (z6b p R f c P.length)) u1 u2 u3 u4 u5 u6 E=E det' (gz p R (d+1) c f P).2 q3 (zz R C (gz p R (d+1) c f P).1) u1 u2 u3 u4 u5 u6:=fun det=>by
     obtain ⟨det',h⟩:=ih (c+1) n (z6b p R f c P.length) (P++[(c:Int)]) det (by omega) (by omega) (z158 hp hf c _) (by simp; omega) (by simp; omega)
     rw [hPl] at h
     exact ⟨det',by rw [h,hg]⟩
    by_cases hat:z1j f c (R-P.length) P.length=P.length
    ·rw [yb (by omega),y14,y5 (by simp)]
     rw [hat] at hfa
     simp only [hx,yg,ye,z40,hl,yz,y7,z6y f hr hcC,y6,hpn,y8,z152 hk hp hfa]
     rw [z155 hk hR hC hr hp hf (z8y hp.1 _),z156 hk hm hR hC hcC hr hp (zid hp.1 hf _ (z8y hp.1 _).1)]
     simp only [yy,hbl,y7,hw,hw2]
     have he:clF (scF f p P.length (z8x p (f P.length c))) p P.length c R=z6b p R f c P.length:=by unfold z6b; rw [hat,z159]
     rw [he]
     exact fin _
    ·rw [ya (by omega),y2j,y4 rfl]
     have hv:swF f P.length (z1j f c (R-P.length) P.length) P.length c=f (z1j f c (R-P.length) P.length) c:=by unfold swF; rw [if_pos rfl]
     rw [z1mh hk hR hC hr haR (fun h=>hat h.symm)]
     simp only [hx,yg,ye,z40,hl,yz,y7,z6y _ hr hcC,hv,y6,hpn,y8,z152 hk hp hfa]
     rw [z155 hk hR hC hr hp (zic hf _ _) (z8y hp.1 _),z156 hk hm hR hC hcC hr hp (zid hp.1 (zic hf _ _) _ (z8y hp.1 _).1)]
     simp only [yy,hbl,y7,hw,hw2]
     exact fin _
  ·have hr':¬ (P.length:Int)<m.2.1:=by rw [hm]; omega
   rw [ya hr',y5 (by simp),z157 p R (d+1) c f P (by omega)]
   exact ⟨_,rfl⟩
theorem z1mm {k:Nat} (hk:KK≤k) {R C c t:Nat} (hR:R≤64) (hc:c<C) (ht:t≤R) (f:Nat→Nat→Int) :
  znx k (((z1p R C f).drop t).take (R-t)) (c:Int)=some (if z1j f c (R-t) t=R then -1 else (z1j f c (R-t) t:Int)-(t:Int)):=by
 have hK:=zg
 have hlen:(((z1p R C f).drop t).take (R-t)).length=R-t:=by rw [y1c,y1y,z7s]; omega
 unfold znx
 rw [hlen]
 have key:∀ (d i n:Nat),i+d=R-t→d<n→zfz k n (((z1p R C f).drop t).take (R-t)) (c:Int) ((R-t:Nat):Int) (i:Int) (some (-1))=some (if z1j f c d (t+i)=R then -1 else (z1j f c d (t+i):Int)-(t:Int)):=by
  intro d
  induction d with
  | zero =>
   intro i n hi hn
   obtain ⟨n,rfl⟩:∃ m,n=m+1:=⟨n-1,by omega⟩
   have:¬ (i:Int)<((R-t:Nat):Int):=by omega
   simp only [zfz,this,yf,yc,y8]
   rw [y4 (show z1j f c 0 (t+i)=R by show t+i=R; omega)]
  | succ d ih =>
   intro i n hi hn
   obtain ⟨n,rfl⟩:∃ m,n=m+1:=⟨n-1,by omega⟩
   have hlt:(i:Int)<((R-t:Nat):Int):=by omega
   have hw:=zd (i:=i) (by omega)
   have hg:(((z1p R C f).drop t).take (R-t))[i]?=some (z16 C f (t+i)):=by
    rw [y1n (by omega),y39,z6a f (by omega)]
   simp only [zfz,zsc,hlt,y9,y7,yg,ye,hg,y6,zcn f _ hc,hw]
   by_cases h0:f (t+i) c=0
   ·rw [yb h0,y14,y5 (by simp),ih (i+1) n (by omega) (by omega),show t+(i+1)=t+i+1 by omega]
    simp only [z1j,h0,y7]
   ·rw [ya h0,y2j,y4 rfl]
    simp only [z1j,h0,y8]
    rw [y5 (by omega)]
    congr 1
    omega
 exact key (R-t) 0 k (by omega) (by omega)
theorem z1mn {R C t a:Nat} (f:Nat→Nat→Int) (ht:t<R) (ha:a<R) (h:a≠t):((z1p R C f).set t (z16 C f a)).set a (z16 C f t)=z1p R C (swF f t a):=by
 rw [zob f f a ht,zob _ f t ha]
 refine zsf fun i j _ _=>?_
 unfold swF
 by_cases h1:i=a
 ·rw [y4 h1,y5 (fun e=>h (by omega)),y4 h1]
 ·rw [y5 h1]
  by_cases h2:i=t
  ·rw [y4 h2,y4 h2]
  ·rw [y5 h2,y5 h2,y5 h1]
theorem z15a {k:Nat} (hk:KK≤k) {C t:Nat} (hC:C≤64) {f:Nat→Nat→Int} {p v:Int} (hp:2≤p∧p≤251) (hf:BdF p f) (hv:0≤v∧v<p):zaa k (List.replicate C 0) (z16 C f t) v p=some (z16 C (scF f p t v) t):=by
 have e:List.replicate C (0:Int)=(List.range C).map (fun _=>(0:Int)):=by rw [List.map_const',y15]
 rw [e]
 unfold z16
 rw [z154 hk hp ⟨hv.1,by omega⟩ hC (g:=fun _=>0) (h:=f t) (fun _=>⟨by omega,by omega⟩) (fun j=>hf t j)]
 congr 1
 refine y3b fun j _=>?_
 unfold scF
 rw [y4 rfl,Int.zero_add]
theorem z15b {R C t:Nat} {f:Nat→Nat→Int} {p v:Int} (ht:t<R):(z1p R C f).set t (z16 C (scF f p t v) t)=z1p R C (scF f p t v):=by
 rw [zob f _ t ht]
 refine zsf fun i j _ _=>?_
 by_cases h:i=t
 ·rw [y4 h,h]
 ·rw [if_neg h]; unfold scF; rw [if_neg h]
theorem z15c {k:Nat} (hk:KK≤k) {R C c t:Nat} (hR:R≤64) (hC:C≤64) (hc:c<C) (ht:t<R) {f:Nat→Nat→Int} {p:Int} (hp:2≤p∧p≤251) (hf:BdF p f) (det x16 x17 cc:Int) (q20:List Int) (E:Int→Int→Int→Int→Int→(List (List Int))→(List Int)→Int→Option ((((Unit×(Int×Unit))×Unit)×((List (List Int))×(List Int)×Unit)×Unit))) :
  z7q k k cc p det (t:Int) x16 x17 (R:Int) 0 (z1p R C f) q20 (c:Int) E=E cc p det x16 x17 (z1p R C (clF f p t c R)) q20 (c:Int):=by
 have hK:=zg
 have e0:z1p R C f=z1p R C (clF f p t c 0):=zsf fun i j _ _=>by unfold clF; rw [if_neg (fun h=>Nat.not_lt_zero _ h.1)]
 rw [e0]
 refine zac (S:=List (List Int)) (L:=fun n i q=>z7q k n cc p det (t:Int) x16 x17 (R:Int) i q q20 (c:Int) E) (b:=R) (st:=fun i=>z1p R C (clF f p t c i)) ?_ ?_ (n:=k) (by omega)
 ·intro n i hi
  have hlt:(i:Int)<(R:Int):=by omega
  have hw:=zd (i:=i) (by omega)
  have r1:z16 C (clF f p t c i) i=z16 C f i:=zib fun j _=>zsg _ _ _ _
  have r2:z16 C (clF f p t c i) t=z16 C f t:=zib fun j _=>z14x _ _ _ _
  have hfi:=hf i c
  have hwp:z6 (p-f i c)=p-f i c:=ze (by omega) (by omega)
  simp only [z7q,hlt,y9,y7,yg,ye,z7s,hi,yz,z6a _ hi,z6a _ ht,r1,r2,y6,zcn f i hc,hw,ht]
  by_cases h1:i=t
  ·rw [yb (by omega),y14,y5 (by simp),zoe (.inl h1)]
  ·rw [ya (by omega),y2j,y4 rfl]
   by_cases h2:f i c=0
   ·rw [yb h2,y14,y5 (by simp),zoe (.inr h2)]
   ·have ha:zaa k (z16 C f i) (z16 C f t) (z6 (p-f i c)) p=some (z16 C (fun _ j=>Int.tmod (f i j+(p-f i c)*f t j) p) i):=by
     rw [hwp]
     exact z154 hk hp ⟨by omega,by omega⟩ hC (g:=f i) (h:=f t) (fun j=>hf i j) (fun j=>hf t j)
    rw [ya h2,y2j,y4 rfl,ha]
    simp only [y6]
    rw [zob _ _ i hi]
    have hs:=z14y (p:=p) (f:=f) h1 h2
    rw [← hs]
 ·intro n
  simp only [z7q,yw,yf,yc,y8]
theorem z1mo (x p:Int) (hp:2≤p):∃ r,zny x p=some r:=by
 have:¬ p=0:=by omega
 unfold zny
 rw [y5 this,y5 this]
 exact ⟨_,rfl⟩
theorem z1mp {k:Nat} (hk:KK≤k) {R C:Nat} (hR:R≤64) (hC:C≤64) {p:Int} (hp:2≤p∧p≤251) (E:Int→(List (List Int))→(List Int)→Option ((((Unit×(Int×Unit))×Unit)×((List (List Int))×(List Int)×Unit)×Unit))) :
  ∀ (d c n:Nat) (f:Nat→Nat→Int) (P:List Int) (det:Int),c+d=C→d<n→BdF p f→P.length≤R→P.length≤c→∃ det',z8w k n (C:Int) p det (C:Int) (c:Int) (z1p R C f) P E=E det' (z1p R C (gz p R d c f P).1) (gz p R d c f P).2:=by
 have hK:=zg
 have hL:=z1q
 intro d
 induction d with
 | zero =>
  intro c n f P det hc hn hf hP hPc
  obtain ⟨n,rfl⟩:∃ m,n=m+1:=⟨n-1,by omega⟩
  have:¬ (c:Int)<(C:Int):=by omega
  simp only [z8w,this,yf,yc,y8,gz]
  exact ⟨_,rfl⟩
 | succ d ih =>
  intro c n f P det hc hn hf hP hPc
  obtain ⟨n,rfl⟩:∃ m,n=m+1:=⟨n-1,by omega⟩
  have hlt:(c:Int)<(C:Int):=by omega
  have hcC:c<C:=by omega
  have b1:0≤(P.length:Int)∧(P.length:Int)≤(R:Int)∧(R:Int)≤(R:Int):=⟨by omega,by omega,y2e _⟩
  have hs:=zod f c (R-P.length) P.length
  have hw:=zd (i:=c) (by omega)
  simp only [z8w,hlt,y9,y7,z7s,b1,yz,z1mm hk hR hcC hP f,y6]
  by_cases ha:z1j f c (R-P.length) P.length=R
  ·have hm1:(-1:Int)<0:=by omega
   rw [y4 ha,yb hm1,y4 rfl,hw]
   obtain ⟨det',h⟩:=ih (c+1) n f P 0 (by omega) (by omega) hf hP (by omega)
   refine ⟨det',?_⟩
   rw [h]
   simp only [gz,ha,y7]
  ·have haR:z1j f c (R-P.length) P.length<R:=by omega
   have hr:P.length<R:=by omega
   have hg:(gz p R (d+1) c f P)=gz p R d (c+1) (z6b p R f c P.length) (P++[(c:Int)]):=by simp only [gz,ha,y8]
   have hbl:(P.length+1)*8≤LIM:=by omega
   have hpn:¬ p=0:=by omega
   have hfa:=hf (z1j f c (R-P.length) P.length) c
   have hcols:0≤(C:Int)∧(C:Int)≤(C:Int)∧(C:Int)*8≤LIM:=⟨by omega,y2e _,by omega⟩
   have fin:∀ det,∃ det',z8w k n (C:Int) p det (C:Int) ((c+1:Nat):Int) (z1p R C (z6b p R f c P.length)) (P++[(c:Int)]) E=E det' (z1p R C (gz p R (d+1) c f P).1) (gz p R (d+1) c f P).2:=fun det=>by
    obtain ⟨det',h⟩:=ih (c+1) n (z6b p R f c P.length) (P++[(c:Int)]) det (by omega) (by omega) (z158 hp hf c _) (by simp; omega) (by simp; omega)
    exact ⟨det',by rw [h,hg]⟩
   rw [y5 ha,ya (by omega),y5 (by simp)]
   by_cases hat:z1j f c (R-P.length) P.length=P.length
   ·rw [ya (by omega),y5 (by simp)]
    rw [hat] at hfa
    simp only [yg,ye,z7s,hr,yz,y7,z6a f hr,y6,zcn f _ hcC,hpn,y8,hcols,z153 hk hp hfa,z15a hk hC hp hf (z8y hp.1 _),z15b hr,y21]
    rw [z15c hk hR hC hcC hr hp (zid hp.1 hf _ (z8y hp.1 _).1)]
    simp only [yy,hbl,y7,hw]
    have he:clF (scF f p P.length (z8x p (f P.length c))) p P.length c R=z6b p R f c P.length:=by unfold z6b; rw [hat,z159]
    rw [he]
    exact fin _
   ·have hgt:(0:Int)<(z1j f c (R-P.length) P.length:Int)-(P.length:Int):=by omega
    have hix:z6 ((P.length:Int)+((z1j f c (R-P.length) P.length:Int)-(P.length:Int)))=(z1j f c (R-P.length) P.length:Int):=by rw [ze (by omega) (by omega)]; omega
    obtain ⟨r,hred⟩:=z1mo (z6 (0-det)) p hp.1
    have hv:swF f P.length (z1j f c (R-P.length) P.length) P.length c=f (z1j f c (R-P.length) P.length) c:=by unfold swF; rw [if_pos rfl]
    have hset:∀ (x:List Int),((z1p R C f).set P.length x)[z1j f c (R-P.length) P.length]?=some (z16 C f (z1j f c (R-P.length) P.length)):=fun x=>by
     rw [y4d (fun h=>hat h.symm),z6a f haR]
    rw [yb hgt,y4 rfl]
    simp only [hix,yg,ye,z7s,y21,hr,haR,yz,y7,z6a f hr,z6a f haR,y6,hset,hred,z1mn f hr haR hat,z6a _ hr,zcn _ _ hcC,hv,hpn,y8,hcols,z153 hk hp hfa,z15a hk hC hp (zic hf _ _) (z8y hp.1 _),z15b hr]
    rw [z15c hk hR hC hcC hr hp (zid hp.1 (zic hf _ _) _ (z8y hp.1 _).1)]
    simp only [yy,hbl,y7,hw]
    exact fin _
def fM (m:Mat) (C:Nat):Nat→Nat→Int:=fun i j=>m.2.2.2.getD (i*C+j) 0
theorem z15d {m:Mat} {R C:Nat} (h:MatP m R C):(List.range R).map (z4k m.2.2.2 C)=z1p R C (fM m C):=by
 unfold z1p
 refine y3b fun i hi=>?_
 have hi:=y1a.1 hi
 refine y3o fun j=>?_
 rcases y22 j C with hj | hj
 ·rw [z14u hj,zcn _ _ hj]
  have hl:i*C+j<m.2.2.2.length:=by rw [h.len]; exact ixl hi hj
  unfold fM
  rw [y16,yj hl]
  rfl
 ·rw [y2v (by rw [zg6 h.len hi]; exact hj),y2v (by rw [zoa]; exact hj)]
theorem z1mq {m:Mat} {R C:Nat} (h:MatP m R C) (C':Nat):BdF m.1 (fM m C'):=fun i j=>by
 have hp:=h.prime
 unfold fM
 rw [y16]
 cases hx:m.2.2.2[i*C'+j]? with
 | none=>exact ⟨by simp,by simp; omega⟩
 | some x=>exact ⟨(h.cells x (ym hx)).1,h.lt x (ym hx)⟩
theorem zsh (p:Int) (R:Nat):∀ d c f P,P.length≤R→(gz p R d c f P).2.length≤R
 | 0,_,_,_,h=>h
 | d+1,c,f,P,h=>by
  unfold gz
  split
  ·exact zsh p R d (c+1) f P h
  ·rename_i hne
   refine zsh p R d (c+1) _ _ ?_
   have:=zod f c (R-P.length) P.length
   rw [yl,yy]
   omega
theorem z1mr {l:List Int} (h:l.length≤1048576):zee l=some l:=by
 have hL:=z1q
 unfold zee
 rw [y4 (by simp only [y3f]; omega)]
theorem z1ms {k:Nat} (hk:KK≤k) {R C:Nat} (hR:R≤64) (hC:C≤64) {p:Int} (hp:2≤p∧p≤251) {f:Nat→Nat→Int} (hf:BdF p f):∃ det,znz k (C:Int) p (z1p R C f)=some ((((),(det,())),()),(z1p R C (gz p R C 0 f []).1,(gz p R C 0 f []).2,()),()):=by
 have hK:=zg
 obtain ⟨det',e⟩:=z1mp hk hR hC hp (fun det_42 q_43 q_44=>some ((((),(det_42,())),()),(q_43,q_44,()),())) C 0 k f [] 1 (by omega) (by omega) hf (y2k _) (y2k _)
 exact ⟨det',e⟩
theorem zsi {α:Type} {R:α→α→Prop} (tr:∀ a b c,R a b→R b c→R a c):∀ {l:List α},(∀ (i:Nat) (a b:α),l[i]?=some a→l[i+1]?=some b→R a b)→l.Pairwise R
 | [],_=>List.Pairwise.nil
 | [a],_=>List.pairwise_singleton ..
 | a::b::l,h=>by
  have h0:=h 0 a b rfl rfl
  have ih:=zsi tr (l:=b::l) (fun i x y hx hy=>h (i+1) x y hx hy)
  refine List.Pairwise.cons (fun x hx=>?_) ih
  rcases yx.1 hx with rfl | hx
  ·exact h0
  ·exact tr _ _ _ h0 ((List.pairwise_cons.1 ih).1 x hx)
theorem z15e {α:Type} {R:α→α→Prop} {l:List α} (h:l.Pairwise R) {i:Nat} {a b:α} (ha:l[i]?=some a) (hb:l[i+1]?=some b):R a b:=by
 obtain ⟨h1,rfl⟩:=yo.1 ha
 obtain ⟨h2,rfl⟩:=yo.1 hb
 exact y4k.1 h i (i+1) h1 h2 (by omega)
def z6z {α:Type} (R:α→α→Prop) (l:List α) (i:Nat) (x:α):Prop:=0<i→∀ t,l[i-1]?=some t→R t x
theorem zof {α:Type} {R:α→α→Prop} (tr:∀ a b c,R a b→R b c→R a c) {l:List α} {m:Nat} (h:∀ j,j<m→∀ x,l[j]?=some x→z6z R l j x):(l.take m).Pairwise R:=by
 refine zsi tr fun i a b ha hb=>?_
 have hi:i+1<m:=by
  have:=(yo.1 hb).1
  rw [y1c] at this; omega
 rw [y1n (by omega)] at ha
 rw [y1n hi] at hb
 exact h (i+1) hi b hb (by omega) a (by simpa using ha)
theorem zsj {α:Type} {R:α→α→Prop} {l:List α} (h:l.Pairwise R) {i:Nat} {x:α} (hx:l[i]?=some x):z6z R l i x:=fun h0 t ht=>by
 have e:i=(i-1)+1:=by omega
 rw [e] at hx
 exact z15e h ht hx
theorem z1mt {R:Type} {L:Nat→Int→R} {b:Nat} {p:Nat→Bool} {r e:R}
  (h1:∀ n (i:Nat),i<b→(∀ j,j<i→p j=true)→L (n+1) (i:Int)=if p i=true then L n ((i+1:Nat):Int) else r) (h2:∀ n,L (n+1) (b:Int)=e) {n:Nat} (hn:b<n):L n 0=if (List.range b).all p=true then e else r:=by
 refine z26 (α:=Nat) (A:=Unit) (L:=fun n i _=>L n i) (I:=fun pre _=>∀ j∈pre,p j=true) (G:=fun l _=>if l.all p=true then e else r) (List.range b) ?_ ?_ n (by simpa using hn) () (by simp)
 ·intro n pre x post _ hx hI ih hg hlt
  rw [y15] at hlt
  have hxi:x=pre.length:=by
   rw [y26 (by omega)] at hg
   simpa using hg.symm
  subst hxi
  have hpre:pre=List.range pre.length:=by
   have:=congrArg (List.take pre.length) hx
   rw [List.take_left,List.take_range] at this
   rw [y3z (by omega)] at this
   exact this.symm
  rw [h1 n pre.length (by omega) (fun j hj=>hI j (by rw [hpre]; simpa using hj))]
  by_cases hp:p pre.length=true
  ·rw [y4 hp,ih () (fun j hj=>by
    rcases yd.1 hj with hj | hj
    ·exact hI j hj
    ·rw [y2l.1 hj]; exact hp)]
   simp [hp]
  ·rw [y5 hp]; simp [hp]
 ·intro n _ _
  simpa using h2 n
structure SimpP (s:List Int):Prop where
 len1:1≤s.length
 len4:s.length≤4
 vert:∀ x∈s,0≤x∧x≤9
 rise:s.Pairwise (fun a b:Int=>a<b)
open Classical in
noncomputable def zad (s:List Int):Bool:=decide (SimpP s)
theorem zae {s:List Int}:zad s=true↔SimpP s:=by unfold zad; simp
open Classical in
theorem z1mu {k:Nat} (hk:KK≤k) {s:List Int} (hs:s.length≤1000000000) (lo up:Int):zl6 k s lo up=some (decide ((∀ x∈s,lo≤x∧x≤up)∧s.Pairwise (fun a b:Int=>a<b))):=by
 have hK:=zg
 unfold zl6
 have:=z5w (L:=fun n i=>zbi k n s lo up i (some true)) (b:=s.length) (p:=fun i=>decide (∀ x,s[i]?=some x→(lo≤x∧x≤up)∧z6z (fun a b:Int=>a<b) s i x)) (r:=some false) (e:=some true) ?_ ?_ (n:=k) (by omega)
 ·rw [this]
  have e:((List.range s.length).all (fun i=>decide (∀ x,s[i]?=some x→(lo≤x∧x≤up)∧z6z (fun a b:Int=>a<b) s i x))=true)↔((∀ x∈s,lo≤x∧x≤up)∧s.Pairwise (fun a b:Int=>a<b)):=by
   simp only [y17,y1a,y1d]
   constructor
   ·intro h
    refine ⟨fun x hx=>?_,?_⟩
    ·obtain ⟨i,hi,rfl⟩:=List.getElem_of_mem hx
     exact (h i hi _ (yj hi)).1
    ·have:=zof (R:=fun a b:Int=>a<b) (fun a b c=>Int.lt_trans) (l:=s) (m:=s.length) (fun j hj x hx=>(h j hj x hx).2)
     rwa [y31] at this
   ·rintro ⟨h1,h2⟩ i hi x hx
    exact ⟨h1 x (ym hx),zsj h2 hx⟩
  by_cases c:((∀ x∈s,lo≤x∧x≤up)∧s.Pairwise (fun a b:Int=>a<b))
  ·rw [y4 (e.2 c),yb c]
  ·rw [y5 (fun h=>c (e.1 h)),ya c]
 ·intro n i hi
  have hlt:(i:Int)<(s.length:Int):=by omega
  have hw:=zd (i:=i) (by omega)
  have hg:s[i]?=some s[i]:=yj hi
  simp only [zbi,hlt,y9,y7,yg,ye,hg,y6,hw,z7r,y37,forall_eq']
  by_cases c1:lo≤s[i]∧s[i]≤up
  ·rw [yb c1]
   simp only [y14,yc,y8]
   by_cases h0:0<i
   ·have h0':(0:Int)<(i:Int):=by omega
    have hw1:z6 ((i:Int)-1)=((i-1:Nat):Int):=by rw [ze (by omega) (by omega)]; omega
    have hg1:s[i-1]?=some s[i-1]:=yj (by omega)
    simp only [h0',y9,y7,hw1,yg,ye,hg1,y6]
    by_cases c2:s[i-1]<s[i]
    ·have:z6z (fun a b:Int=>a<b) s i s[i]:=fun _ t ht=>by rw [hg1] at ht; cases ht; exact c2
     rw [y5 (by simp; omega),y4 (yb ⟨c1,this⟩)]
    ·have:¬ z6z (fun a b:Int=>a<b) s i s[i]:=fun h=>c2 (h h0 _ hg1)
     rw [y4 (yb (by omega)),y5 (fun h=>this (of_decide_eq_true h).2)]
   ·have h0':¬ (0:Int)<(i:Int):=by omega
    have:z6z (fun a b:Int=>a<b) s i s[i]:=fun h=>absurd h h0
    rw [ya h0',y5 (by simp),y4 (yb ⟨c1,this⟩)]
  ·rw [ya c1,y4 (by simp),y5 (fun h=>c1 (of_decide_eq_true h).1)]
 ·intro n
  simp only [zbi,yw,yf,yc,y8]
open Classical in
theorem z1mv {k:Nat} (hk:KK≤k) {s:List Int} (hs:s.length≤1000000000):zl7 k s=some (zad s):=by
 unfold zl7
 rw [z7r]
 simp only [y6,z1mu hk hs]
 by_cases c:(1:Int)≤(s.length:Int)∧(s.length:Int)≤4
 ·rw [yb c,y4 rfl]
  congr 1
  unfold zad
  refine decide_eq_decide.2 ⟨fun h=>⟨by omega,by omega,h.1,h.2⟩,fun h=>⟨h.vert,h.rise⟩⟩
 ·rw [ya c,y5 (by simp)]
  congr 1
  unfold zad
  rw [ya (fun h:SimpP s=>c ⟨by have:=h.len1; omega,by have:=h.len4; omega⟩)]
open Classical in
theorem z1mw {k:Nat} (hk:KK≤k) {s:List Int} (hs:s.length≤1000000000):zmp k s=some (decide (s.Pairwise (fun a b:Int=>a<b))):=by
 have hK:=zg
 unfold zmp
 have key:∀ (d n i:Nat),s.length-i=d→d<n→0<i→(s.take i).Pairwise (fun a b:Int=>a<b)→zfa k n s (i:Int) (some true)=some (decide (s.Pairwise (fun a b:Int=>a<b))):=by
  intro d
  induction d with
  | zero =>
   intro n i hd hn h0 hp
   obtain ⟨n,rfl⟩:∃ m,n=m+1:=⟨n-1,by omega⟩
   have:¬ (i:Int)<(s.length:Int):=by omega
   rw [y4y (by omega)] at hp
   simp only [zfa,this,yf,yc,y8,yb hp]
  | succ d ih =>
   intro n i hd hn h0 hp
   obtain ⟨n,rfl⟩:∃ m,n=m+1:=⟨n-1,by omega⟩
   have hi:i<s.length:=by omega
   have hlt:(i:Int)<(s.length:Int):=by omega
   have hw:=zd (i:=i) (by omega)
   have hw1:z6 ((i:Int)-1)=((i-1:Nat):Int):=by rw [ze (by omega) (by omega)]; omega
   have hg:s[i]?=some s[i]:=yj hi
   have hg1:s[i-1]?=some s[i-1]:=yj (by omega)
   simp only [zfa,hlt,y9,y7,yg,ye,hg,hg1,y6,hw,hw1]
   by_cases c:s[i-1]<s[i]
   ·rw [ya (show ¬ s[i]≤s[i-1] by omega),y5 (by simp)]
    refine ih n (i+1) (by omega) (by omega) (by omega) ?_
    refine zsi (R:=fun a b:Int=>a<b) (fun a b c=>Int.lt_trans) fun j a b ha hb=>?_
    have hj:j+1<i+1:=by
     have:=(yo.1 hb).1
     rw [y1c] at this; omega
    rw [y1n (by omega)] at ha
    rw [y1n hj] at hb
    by_cases hji:j+1=i
    ·have e1:a=s[i-1]:=by
      have:s[j]?=s[i-1]?:=by rw [show j=i-1 by omega]
      rw [ha,hg1] at this
      exact y28 this
     have e2:b=s[i]:=by
      rw [hji,hg] at hb
      exact (y28 hb).symm
     rw [e1,e2]; exact c
    ·exact z15e hp (i:=j) (by rw [y1n (by omega)]; exact ha) (by rw [y1n (by omega)]; exact hb)
   ·rw [yb (show s[i]≤s[i-1] by omega),y4 rfl]
    congr 1
    refine (ya fun h=>c ?_).symm
    exact y4k.1 h (i-1) i (by omega) hi (by omega)
 have h1:=key (s.length-1) k 1 rfl (by omega) (by omega) (by cases s with
  | nil=>simp
  | cons a l=>simp)
 exact h1
theorem z1mx {k:Nat} (hk:KK≤k) {s:List Int} (hs:s.length≤1000000000):zmq k s ()=some (s.any fun x=>!decide (0≤x∧x≤9)):=by
 have hK:=zg
 unfold zmq zre
 rw [zbg (L:=fun n i=>zfb k n s () (s.length:Int) i (some (-1))) (p:=fun x=>!decide (0≤x∧x≤9)) s ?_ ?_ (n:=k) (by omega)]
 ·rw [y6,zg5]
 ·intro n i x hi hlt
  have hw:=zd (i:=i) (by omega)
  simp only [zfb,zrd,zrc,z6x,hlt,y9,y7,yg,ye,hi,y6,hw]
 ·intro n
  simp [zfb]
theorem z1my {k:Nat} (hk:KK≤k) {s:List Int} (hs:s.length≤1000000000):zmr k s=some (zad s):=by
 unfold zmr
 by_cases c1:1≤s.length
 ·rw [yb (show (1:Int)≤(s.length:Int) by omega),y4 rfl]
  by_cases c2:s.length≤4
  ·rw [yb (show (s.length:Int)≤4 by omega),y4 rfl,z1mw hk hs,z1mx hk hs]
   simp only [y6]
   by_cases c3:s.Pairwise (fun a b:Int=>a<b)
   ·rw [yb c3,y4 rfl]
    congr 1
    rw [y49,zae]
    simp only [y1h,y38,Bool.not_eq_true,decide_eq_false_iff_not,y40,y1d]
    exact ⟨fun h=>⟨c1,c2,fun x hx=>by simpa using h x hx,c3⟩,fun h x hx=>by simpa using h.vert x hx⟩
   ·rw [ya c3,y5 (by simp)]
    congr 1
    symm
    rw [y3u,ne_eq,zae]
    exact fun h=>c3 h.rise
  ·rw [ya (show ¬ (s.length:Int)≤4 by omega),y5 (by simp)]
   congr 1
   symm
   rw [y3u,ne_eq,zae]
   exact fun h=>c2 h.len4
 ·rw [ya (show ¬ (1:Int)≤(s.length:Int) by omega),y5 (by simp)]
  congr 1
  symm
  rw [y3u,ne_eq,zae]
  exact fun h=>c1 h.len1
def cI (x y:Int):Int:=if x<y then -1 else if y<x then 1 else 0
theorem zsk (x y:Int):za4 x y=some (cI x y):=by
 unfold za4 zmu cI
 by_cases h1:x<y
 ·simp [h1]
 ·by_cases h2:y<x <;> simp [h1,h2]
theorem z1mz (x y:Int):zmt x y=some (cI x y):=by
 unfold zmt zms cI
 by_cases h1:x<y
 ·simp [h1]
 ·by_cases h2:y<x <;> simp [h1,h2]
theorem zsl {k:Nat} (hk:KK≤k) (a b:Int):zhy k [a,b]=some (if a=0 then b else a):=by
 have hK:=zg
 obtain ⟨m,rfl⟩:∃ m,k=m+3:=⟨k-3,by omega⟩
 generalize hf:m+3=k
 have hw0:z6 1=1:=ze (by omega) (by omega)
 have hw1:z6 2=2:=ze (by omega) (by omega)
 show zc4 k k 0 [a,b] 2 0 (fun zero_2=>some zero_2)=_
 conv=>lhs; arg 2; rw [← hf]
 by_cases h:a=0
 ·by_cases h':b=0
  ·subst h; subst h'; simp [zc4,hw0,hw1]
  ·subst h; simp [zc4,hw0,hw1,h']
 ·simp [zc4,h]
def z4l:List Int→List Int→Bool
 | x::a,y::b=>if x=y then z4l a b else decide (x<y)
 | _,_=>false
def z1d (a b:List Int):Bool:=decide (a.length<b.length)||(decide (a.length=b.length)&&z4l a b)
theorem z15f:∀ a:List Int,z4l a a=false
 | []=>rfl
 | x::a=>by simp [z4l,z15f a]
theorem z15g:∀ a b c:List Int,a.length=b.length→b.length=c.length→z4l a b=true→z4l b c=true→z4l a c=true
 | [],_,_,_,_,h,_=>by simp [z4l] at h
 | _::_,[],_,_,_,h,_=>by simp [z4l] at h
 | _::_,_::_,[],_,_,_,h=>by simp [z4l] at h
 | x::a,y::b,z::c,h1,h2,h3,h4=>by
  simp only [z4l] at h3 h4 ⊢
  by_cases c1:x=y
  ·subst c1
   rw [y4 rfl] at h3
   by_cases c2:x=z
   ·rw [y4 c2] at h4 ⊢
    exact z15g a b c (by simpa using h1) (by simpa using h2) h3 h4
   ·rw [y5 c2] at h4 ⊢; exact h4
  ·rw [y5 c1,y1d] at h3
   by_cases c2:y=z
   ·subst c2; rw [y5 c1,y1d]; exact h3
   ·rw [y5 c2,y1d] at h4
    rw [y5 (by omega),y1d]; omega
theorem zog (a:List Int):z1d a a=false:=by unfold z1d; simp [z15f]
theorem zif {a b c:List Int} (h1:z1d a b=true) (h2:z1d b c=true):z1d a c=true:=by
 unfold z1d at *
 simp only [y2x,yh,y1d] at *
 rcases h1 with h1 | ⟨e1,h1⟩
 ·rcases h2 with h2 | ⟨e2,h2⟩
  ·left; omega
  ·left; omega
 ·rcases h2 with h2 | ⟨e2,h2⟩
  ·left; omega
  ·exact .inr ⟨by omega,z15g a b c e1 e2 h1 h2⟩
theorem z1n0 {a b:List Int} (h:z1d a b=true):z1d b a=false:=by
 cases h':z1d b a
 ·rfl
 ·have:=zif h h'
  rw [zog] at this; cases this
def z5z:List Int→List Int→Int
 | x::a,y::b=>if cI x y=0 then z5z a b else cI x y
 | _::_,[]=>1
 | [],_::_ => -1
 | [],[]=>0
def z7u (a b:List Int):Int:=if cI (a.length:Int) (b.length:Int)=0 then z5z a b else cI (a.length:Int) (b.length:Int)
theorem zcq (x y:Int):cI x y=0↔x=y:=by
 unfold cI
 by_cases h1:x<y
 ·rw [y4 h1]; constructor <;> intro h <;> omega
 ·rw [y5 h1]
  by_cases h2:y<x
  ·rw [y4 h2]; constructor <;> intro h <;> omega
  ·rw [y5 h2]; constructor <;> intro h <;> omega
theorem z15h (x y:Int):cI x y<0↔x<y:=by
 unfold cI
 by_cases h1:x<y
 ·rw [y4 h1]; constructor <;> intro h <;> omega
 ·rw [y5 h1]
  by_cases h2:y<x
  ·rw [y4 h2]; constructor <;> intro h <;> omega
  ·rw [y5 h2]; constructor <;> intro h <;> omega
theorem z15i:∀ a b:List Int,z5z a b=0↔a=b
 | [],[]=>by simp [z5z]
 | _::_,[]=>by simp [z5z]
 | [],_::_=>by simp [z5z]
 | x::a,y::b=>by
  unfold z5z
  by_cases c:cI x y=0
  ·rw [y4 c,z15i a b,(zcq x y).1 c]; simp
  ·rw [y5 c]
   have:x≠y:=fun e=>c ((zcq x y).2 e)
   simp [c,this]
theorem z15j:∀ a b:List Int,a.length=b.length→(z5z a b<0↔z4l a b=true)
 | [],[],_=>by simp [z5z,z4l]
 | _::_,[],h=>by simp at h
 | [],_::_,h=>by simp at h
 | x::a,y::b,h=>by
  unfold z5z z4l
  by_cases c:cI x y=0
  ·rw [y4 c,y4 ((zcq x y).1 c)]
   exact z15j a b (by simpa using h)
  ·rw [y5 c,y5 (fun e=>c ((zcq x y).2 e)),z15h,y1d]
theorem z15k (a b:List Int):z7u a b=0↔a=b:=by
 unfold z7u
 by_cases c:cI (a.length:Int) (b.length:Int)=0
 ·rw [y4 c]; exact z15i a b
 ·rw [y5 c]
  exact ⟨fun h=>absurd h c,fun h=>by rw [h] at c; exact absurd ((zcq _ _).2 rfl) c⟩
theorem z15l (a b:List Int):decide (z7u a b<0)=z1d a b:=by
 rw [y49,y1d]
 unfold z7u z1d
 simp only [y2x,yh,y1d]
 by_cases c:cI (a.length:Int) (b.length:Int)=0
 ·have e:=(zcq _ _).1 c
  rw [y4 c,z15j a b (by omega)]
  constructor
  ·intro h; exact .inr ⟨by omega,h⟩
  ·rintro (h | h)
   ·omega
   ·exact h.2
 ·have e:¬ (a.length:Int)=(b.length:Int):=fun e=>c ((zcq _ _).2 e)
  rw [y5 c,z15h]
  constructor
  ·intro h; left; omega
  ·rintro (h | h)
   ·omega
   ·omega
theorem z1n1 (a b:List Int):decide (0≤z7u a b)=!z1d a b:=by
 rw [← z15l]
 by_cases h:z7u a b<0
 ·rw [yb h,ya (by omega)]; rfl
 ·rw [ya h,yb (by omega)]; rfl
theorem z1n2 {k:Nat} (hk:KK≤k) {a b:List Int} (ha:a.length≤1000000000) (hb:b.length≤1000000000):zmv k a b=some (z5z a b):=by
 have hK:=zg
 unfold zmv
 have key:∀ (d n i:Nat),a.length-i=d→d<n→zfc k n a b a (a.length:Int) (i:Int) (fun s_4 s_5=>(if (decide ((List.length s_4:Int)<(List.length s_5:Int)))=true then some (-1) else some 0))=(if i≤a.length then some (if a.length≤i then (if i<b.length then -1 else 0) else z5z (a.drop i) (b.drop i)) else some (if a.length<b.length then -1 else 0)):=by
  intro d
  induction d with
  | zero =>
   intro n i hd hn
   obtain ⟨n,rfl⟩:∃ m,n=m+1:=⟨n-1,by omega⟩
   have:¬ (i:Int)<(a.length:Int):=by omega
   simp only [zfc,this,yf,yc,y8]
   by_cases h1:i≤a.length
   ·have:i=a.length:=by omega
    subst this
    rw [y4 (yr _),y4 (yr _)]
    by_cases h2:a.length<b.length
    ·rw [yb (by omega),y4 rfl,y4 h2]
    ·rw [ya (by omega),y5 (by simp),y5 h2]
   ·rw [y5 h1]
    by_cases h2:a.length<b.length
    ·rw [yb (by omega),y4 rfl,y4 h2]
    ·rw [ya (by omega),y5 (by simp),y5 h2]
  | succ d ih =>
   intro n i hd hn
   obtain ⟨n,rfl⟩:∃ m,n=m+1:=⟨n-1,by omega⟩
   have hi:i<a.length:=by omega
   have hlt:(i:Int)<(a.length:Int):=by omega
   have hw:=zd (i:=i) (by omega)
   have da:a.drop i=a[i]::a.drop (i+1):=y2i hi
   rw [y4 (by omega),y5 (by omega),da]
   simp only [zfc,hlt,y9,y7,yg,ye,yj hi,y6,hw]
   by_cases hb2:i<b.length
   ·have db:b.drop i=b[i]::b.drop (i+1):=y2i hb2
    rw [db,ya (by omega),y5 (by simp),yj hb2]
    simp only [y6,zsk]
    unfold z5z
    by_cases c:cI a[i] b[i]=0
    ·rw [yb c,y5 (by simp),y4 c,ih n (i+1) (by omega) (by omega),y4 (by omega)]
     by_cases h3:a.length≤i+1
     ·rw [y4 h3,y51 (l:=a) (by omega)]
      by_cases h4:i+1<b.length
      ·rw [y4 h4,y2i h4]; rfl
      ·rw [y5 h4,y51 (l:=b) (by omega)]; rfl
     ·rw [y5 h3]
    ·rw [ya c,y4 (by simp),y5 c]
   ·rw [y51 (l:=b) (by omega),yb (by omega),y4 rfl]
    rfl
 have h0:=key a.length k 0 (by omega) (by omega)
 have hz:((0:Nat):Int)=0:=rfl
 rw [hz] at h0
 rw [h0,y4 (y2k _),List.drop_zero,List.drop_zero]
 by_cases c:a.length≤0
 ·have:a=[]:=y4v.1 (by omega)
  subst this
  rw [y4 c]
  cases b with
  | nil=>rfl
  | cons y b=>rw [y4 (by simp)]; rfl
 ·rw [y5 c]
theorem zoh {k:Nat} (hk:KK≤k) {a b:List Int} (ha:a.length≤1000000000) (hb:b.length≤1000000000):zc5 k a b=some (z7u a b):=by
 unfold zc5 z7u
 rw [z1mz,z1n2 hk ha hb]
 simp only [y6,zsl hk]
theorem z1n3 {k:Nat} (hk:KK≤k) {a b:List Int} (ha:a.length≤1000000000):zl8 k a b=some (z1d a b):=by
 have hK:=zg
 unfold zl8 z1d
 by_cases hl:a.length=b.length
 ·rw [yb (show (a.length:Int)=(b.length:Int) by omega),y5 (by simp),ya (by omega),yb hl,y3v,y1m]
  have key:∀ (d n i:Nat),a.length-i=d→d<n→zed k n a b (i:Int) (some false)=some (z4l (a.drop i) (b.drop i)):=by
   intro d
   induction d with
   | zero =>
    intro n i hd hn
    obtain ⟨n,rfl⟩:∃ m,n=m+1:=⟨n-1,by omega⟩
    have:¬ (i:Int)<(a.length:Int):=by omega
    simp only [zed,this,yf,yc,y8]
    rw [y51 (l:=a) (by omega)]; rfl
   | succ d ih =>
    intro n i hd hn
    obtain ⟨n,rfl⟩:∃ m,n=m+1:=⟨n-1,by omega⟩
    have hi:i<a.length:=by omega
    have hib:i<b.length:=by omega
    have hlt:(i:Int)<(a.length:Int):=by omega
    have hw:=zd (i:=i) (by omega)
    have da:a.drop i=a[i]::a.drop (i+1):=y2i hi
    have db:b.drop i=b[i]::b.drop (i+1):=y2i hib
    rw [da,db]
    unfold z4l
    simp only [zed,hlt,y9,y7,yg,ye,yj hi,yj hib,y6,hw]
    by_cases c:a[i]=b[i]
    ·rw [yb c,y5 (by simp),y4 c]
     exact ih n (i+1) (by omega) (by omega)
    ·rw [ya c,y4 (by simp),y5 c]
  exact key a.length k 0 (by omega) (by omega)
 ·rw [ya (show ¬ (a.length:Int)=(b.length:Int) by omega),y4 (by simp),ya hl,y4e,y4h]
  exact congrArg some (decide_eq_decide.2 (by omega))
theorem z1n4 {i j:Nat} (h:i+j<4611686018427387904):z6 (Int.fdiv (zbe (z6 ((i:Int)+(j:Int)))) (2 ^ 1))=(((i+j) / 2:Nat):Int):=by
 rw [ze (x:=(i:Int)+j) (by omega) (by omega)]
 have hu:zbe ((i:Int)+(j:Int))=(i:Int)+j:=by unfold zbe IntKind.wrap; simp [IntKind.bits,IntKind.signed]; omega
 rw [hu,Int.fdiv_eq_ediv_of_nonneg _ (by omega),ze (by omega) (by omega)]
 omega
abbrev Cx:=List (List Int)
def z11 (s:List Int) (k:Nat):List Int:=s.take k++s.drop (k+1)
theorem z90 {s:List Int} {k:Nat} (h:k<s.length):(z11 s k).length=s.length-1:=by
 unfold z11; rw [List.length_append,List.length_take,List.length_drop]; omega
structure CxP (c:Cx):Prop where
 len:c.length≤48
 simp:∀ s∈c,SimpP s
 ord:c.Pairwise (fun a b=>z1d a b=true)
 face:∀ s∈c,1<s.length→∀ k,k<s.length→z11 s k∈c
open Classical in
noncomputable def cxB (c:Cx):Bool:=decide (CxP c)
theorem zaf {c:Cx}:cxB c=true↔CxP c:=by unfold cxB; simp
def z4m (c:Cx):Prop:=c.length≤1048576∧∀ s∈c,s.length≤1048576
theorem zoi {s:List Int} (hs:s.length≤1048576) {k:Nat} (h:k<s.length):zbj s (k:Int)=some (z11 s k):=by
 have hL:=z1q
 have hw:=zd (i:=k) (by omega)
 have b1:(k:Int)≤(s.length:Int):=by omega
 have b2:((k+1:Nat):Int)≤(s.length:Int):=by omega
 unfold zbj zee
 have hdr:(s.drop (k+1)).take (s.length-(k+1))=s.drop (k+1):=y4y (by rw [y1y]; exact yr _)
 simp only [yg,y2e,b1,yz,y7,ye]
 rw [y4 (by simp only [y3f,y1c]; omega)]
 simp only [y6,hw,yg,ye,b2,y2e,yz,y7,hdr]
 rw [y4 (by simp only [y1c,y1y]; omega)]
 rfl
def z2p (c:Cx) (s:List Int):Nat:=c.findIdx (fun y=>decide (y=s))
theorem z91 {c:Cx} {s:List Int}:z2p c s<c.length↔s∈c:=by
 unfold z2p
 rw [y63]
 constructor
 ·rintro ⟨x,hx,h⟩; rw [← of_decide_eq_true h]; exact hx
 ·intro h; exact ⟨s,h,yb rfl⟩
theorem zg7 {c:Cx} {s:List Int} (h:s∈c):c[z2p c s]?=some s:=by
 have hl:=z91.2 h
 rw [yj hl]
 have:decide (c[z2p c s]=s)=true:=List.findIdx_getElem (xs:=c) (p:=fun y=>decide (y=s)) (w:=hl)
 rw [of_decide_eq_true this]
theorem z1n5 {k:Nat} (hk:KK≤k) {a b:List Int} (ha:a.length≤1000000000):zl9 k a b=some (decide (a=b)):=by
 have hK:=zg
 unfold zl9
 by_cases hl:a.length=b.length
 ·rw [yb (show (a.length:Int)=(b.length:Int) by omega),y5 (by simp)]
  refine z8j (L:=fun n i=>zef k n a b i (some true)) a b hl ?_ ?_ (n:=k) (by omega)
  ·intro n i x y hx hy hlt
   have hw:=zd (i:=i) (by omega)
   by_cases e:x=y <;> simp [zef,hlt,hx,hy,hw,e]
  ·intro n
   simp [zef]
 ·have h2:a≠b:=fun e=>hl (by rw [e])
  rw [ya (show ¬ (a.length:Int)=(b.length:Int) by omega),y4 (by simp),ya h2]
theorem z15m {k:Nat} (hk:KK≤k) {c:Cx} (hc:z4m c) (s:List Int):zhn k c s=some (if z2p c s<c.length then ((z2p c s:Nat):Int) else -1):=by
 have hK:=zg
 obtain ⟨h1,h2⟩:=hc
 unfold zhn
 rw [zbg (L:=fun m i=>zeg k m c s i (some (-1))) (p:=fun y=>decide (y=s)) c ?_ ?_ (n:=k) (by omega)]
 ·unfold zhm z2p
  cases hf:c.findIdx? (fun y=>decide (y=s)) with
  | some i =>
   obtain ⟨hlt,hp⟩:=List.findIdx?_eq_some_iff_findIdx_eq.1 hf
   rw [hp,y4 hlt]
  | none =>
   rw [y62] at hf
   have:¬ c.findIdx (fun y=>decide (y=s))<c.length:=fun h=>by
    obtain ⟨x,hx,h2⟩:=y63.1 h
    rw [hf x hx] at h2; cases h2
   rw [y5 this]
 ·intro m i x hi hlt
  have hw:=zd (i:=i) (by omega)
  have hxl:=h2 x (ym hi)
  simp only [zeg,hlt,y9,y7,yg,ye,hi,y6,hw,z1n5 hk (show x.length≤1000000000 by omega)]
 ·intro m
  simp [zeg]
theorem z15n (c:Cx) (s:List Int):decide ((if z2p c s<c.length then ((z2p c s:Nat):Int) else -1)<0)=!decide (s∈c):=by
 by_cases h:s∈c
 ·rw [y4 (z91.2 h),ya (by omega),yb h]; rfl
 ·rw [y5 (fun h2=>h (z91.1 h2)),ya h]; rfl
theorem z1n6 {k:Nat} (hk:KK≤k) {a b:List Int} (ha:a.length≤1048576) (hb:b.length≤1048576):zmy k [a,b]=some (a++b):=by
 have hK:=zg
 have hL:=z1q
 obtain ⟨n,rfl⟩:∃ n,k=n+3:=⟨k-3,by omega⟩
 have w1:z6 (0+(a.length:Int))=(a.length:Int):=by rw [ze (by omega) (by omega)]; omega
 have w2:z6 ((a.length:Int)+(b.length:Int))=((a.length+b.length:Nat):Int):=by rw [ze (by omega) (by omega)]; omega
 have w3:z6 ((0:Int)+1)=1:=ze (by omega) (by omega)
 have w4:z6 ((1:Int)+1)=2:=ze (by omega) (by omega)
 have n1:¬ ((a.length:Int)<0):=by omega
 have n2:¬ (((a.length+b.length:Nat):Int)<0):=by omega
 have l1:(((a.length+b.length:Nat):Int).toNat)*8≤LIM:=by simp only [ye]; omega
 have l2:a.length*8≤LIM:=by omega
 have l3:(a.length+b.length)*8≤LIM:=by omega
 unfold zmy
 simp only [zmw,y1k,y3f,y18,Nat.reduceAdd,show ((2:Nat):Int)=2 from rfl,w1,w2,w3,w4]
 simp only [z114,zmx,w1,w2,w3,w4,n1,n2,true_and,l1,l2,l3,yg,y2p,yf,yc,y8,y7,y6,yz,y45,y1q,show decide ((0:Int)<2)=true from rfl,show decide ((1:Int)<2)=true from rfl,show decide ((2:Int)<2)=false from rfl,show (0:Int).toNat=0 from rfl,show (1:Int).toNat=1 from rfl,show (0:Int)≤0 from y2e _,show (0:Int)≤1 by omega,y1k,y3f,y18,Nat.reduceAdd,show ((2:Nat):Int)=2 from rfl]
def z23 (s:List Int):Cx:=if 1<s.length then (List.range s.length).map (z11 s) else []
theorem z15o {k:Nat} (hk:KK≤k) {s:List Int} (hs:s.length≤1048576):zfd k s=some (z23 s):=by
 have hK:=zg
 have hL:=z1q
 unfold zfd
 have:=z26 (α:=Nat) (A:=Cx) (L:=fun n i q=>zc6 k n s (s.length:Int) i q (fun q_3=>some q_3)) (I:=fun pre q=>q=(if 1<s.length then (List.range pre.length).map (z11 s) else [])) (G:=fun _ _=>some (z23 s)) (List.range s.length) ?_ ?_ k (by simp; omega) [] (by simp)
 ·exact this
 ·intro n pre x post q hx hq ih hg hlt
  rw [y15] at hlt
  have hpl:pre.length<s.length:=by omega
  have hw:=zd (i:=pre.length) (by omega)
  simp only [zc6,hlt,y9,y7]
  by_cases c:1<s.length
  ·rw [y4 c] at hq
   have b1:(pre.length:Int)≤(s.length:Int):=by omega
   have b2:((pre.length+1:Nat):Int)≤(s.length:Int):=by omega
   have hdr:(s.drop (pre.length+1)).take (s.length-(pre.length+1))=s.drop (pre.length+1):=y4y (by rw [y1y]; exact yr _)
   have hcc:=z1n6 hk (a:=s.take pre.length) (b:=s.drop (pre.length+1)) (by rw [y1c]; omega) (by rw [y1y]; omega)
   have hlim:(q.length+1)*24≤LIM:=by rw [hq,yp,y15]; omega
   rw [yb (by omega),y4 rfl]
   simp only [yg,y2e,ye,b1,hw,b2,yz,y7,hdr,hcc,y6,yy,hlim]
   refine ih _ ?_
   rw [y4 c,hq,yl,yy,y35,y25]
   rfl
  ·rw [ya (by omega),y5 (by simp),hw]
   exact ih _ (by rw [y5 c] at hq ⊢; exact hq)
 ·intro n q hq
  rw [y15] at hq ⊢
  simp only [zc6,yw,yf,yc,y8,hq]
  rfl
theorem zig {s f:List Int}:f∈z23 s↔1<s.length∧∃ k,k<s.length∧f=z11 s k:=by
 unfold z23
 by_cases c:1<s.length
 ·rw [y4 c,y1f]
  constructor
  ·rintro ⟨k,hk,rfl⟩; exact ⟨c,k,y1a.1 hk,rfl⟩
  ·rintro ⟨_,k,hk,rfl⟩; exact ⟨k,y1a.2 hk,rfl⟩
 ·rw [y5 c]; simp [c]
def z2v (c:Cx) (s:List Int):Nat:=c.findIdx (fun y=>!z1d y s)
theorem z1n7 (c:Cx) (s:List Int):z2v c s≤c.length:=List.findIdx_le_length
theorem z15p {c:Cx} {s:List Int} {i:Nat} (h:i<z2v c s) (hi:i<c.length):z1d c[i] s=true:=by
 have:=List.not_of_lt_findIdx h
 simpa using this
theorem z15q {c:Cx} {s:List Int} (hs:c.Pairwise (fun a b=>z1d a b=true)) {i:Nat} (h:z2v c s≤i) (hi:i<c.length):z1d c[i] s=false:=by
 have hp:z2v c s<c.length:=by omega
 have h0:z1d c[z2v c s] s=false:=by
  have:=List.findIdx_getElem (xs:=c) (p:=fun y=>!z1d y s) (w:=hp)
  simp only [y1h] at this
  exact this
 by_cases e:i=z2v c s
 ·subst e; exact h0
 ·cases hb:z1d c[i] s
  ·rfl
  ·have h1:=y4k.1 hs (z2v c s) i hp hi (by omega)
   rw [zif h1 hb] at h0; cases h0
theorem z1n8 {c:Cx} (hs:c.Pairwise (fun a b=>z1d a b=true)) {s:List Int} (h:s∈c):z2v c s=z2p c s:=by
 have hl:=z91.2 h
 have hg:=zg7 h
 rw [yj hl] at hg
 have hg:=y28 hg
 have h1:¬ z2p c s<z2v c s:=fun q=>by have:=z15p q hl; rw [hg,zog] at this; cases this
 have h2:¬ z2v c s<z2p c s:=fun q=>by
  have h3:=y4k.1 hs (z2v c s) (z2p c s) (by omega) hl q
  rw [hg] at h3
  rw [z15q hs (yr _) (by omega)] at h3; cases h3
 omega
theorem z1n9 {k:Nat} (hk:KK≤k) {c:Cx} (hc:z4m c) (hs:c.Pairwise (fun a b=>z1d a b=true)) {s:List Int} (hsl:s.length≤1048576) {e:Cx→List Int→Unit→Int→Int→Option (Int×Bool)} :
  ∀ (d:Nat) (i j n:Nat),j-i≤d→d<n→i≤z2v c s→z2v c s≤j→j≤c.length→za5 k n c s () (c.length:Int) (i:Int) (j:Int) e=e c s () (c.length:Int) ((z2v c s:Nat):Int):=by
 obtain ⟨hcl,hce⟩:=hc
 intro d
 induction d with
 | zero =>
  intro i j n h1 h2 h3 h4 h5
  obtain ⟨n,rfl⟩:∃ m,n=m+1:=⟨n-1,by omega⟩
  have hlt:¬ (i:Int)<(j:Int):=by omega
  simp only [za5,hlt,yf,yc,y8]
  rw [show i=z2v c s by omega]
 | succ d ih =>
  intro i j n h1 h2 h3 h4 h5
  obtain ⟨n,rfl⟩:∃ m,n=m+1:=⟨n-1,by omega⟩
  by_cases hij:i<j
  ·have hlt:(i:Int)<(j:Int):=by omega
   have hm:(i+j) / 2<c.length:=by omega
   have hw:=zd (i:=(i+j) / 2) (by omega)
   have hml:=hce c[(i+j) / 2] (y1l hm)
   simp only [za5,hlt,y9,y7,z1n4 (show i+j<4611686018427387904 by omega),yg,ye,yj hm,y6,zoh hk (show (c[(i+j) / 2]).length≤1000000000 by omega) (show s.length≤1000000000 by omega),z15l,hw]
   by_cases hb:z1d c[(i+j) / 2] s=true
   ·rw [y4 hb]
    refine ih _ _ _ (by omega) (by omega) ?_ h4 h5
    by_cases hq:z2v c s≤(i+j) / 2
    ·rw [z15q hs hq hm] at hb; cases hb
    ·omega
   ·rw [y5 hb]
    refine ih _ _ _ (by omega) (by omega) h3 ?_ (by omega)
    by_cases hq:(i+j) / 2<z2v c s
    ·exact absurd (z15p hq hm) hb
    ·omega
  ·have hlt:¬ (i:Int)<(j:Int):=by omega
   simp only [za5,hlt,yf,yc,y8]
   rw [show i=z2v c s by omega]
theorem z15r {k:Nat} (hk:KK≤k) {c:Cx} (hc:z4m c) (hs:c.Pairwise (fun a b=>z1d a b=true)) {s:List Int} (hsl:s.length≤1048576):zhz k c s=some (if z2p c s<c.length then ((z2p c s:Nat):Int) else -1):=by
 have hK:=zg
 have hcl:=hc.1
 have:=z1n7 c s
 unfold zhz zrh
 have h0:=z1n9 hk hc hs hsl (e:=fun x_3 target_4 cmp_5 n_6 i_7=>(if (decide (i_7<n_6))=true then (if 0≤i_7 then (x_3[i_7.toNat]?).bind fun y_8=>(zc5 k y_8 target_4).bind fun r_9=>some (i_7,(decide (r_9=0))) else none) else some (i_7,false))) c.length 0 c.length k (by omega) (by omega) (by omega) (by omega) (by omega)
 rw [show ((0:Nat):Int)=0 from rfl] at h0
 rw [h0]
 by_cases h:s∈c
 ·have hp:=z1n8 hs h
  have hl:=z91.2 h
  have hg:=zg7 h
  rw [hp,y4 hl,yb (by omega),y4 rfl]
  simp only [yg,y7,ye,hg,y6,zoh hk (show s.length≤1000000000 by omega) (show s.length≤1000000000 by omega)]
  have:z7u s s=0:=(z15k s s).2 rfl
  rw [this]; rfl
 ·rw [y5 (fun q=>h (z91.1 q))]
  by_cases hl:z2v c s<c.length
  ·have hxl:=hc.2 c[z2v c s] (y1l hl)
   rw [yb (by omega),y4 rfl]
   simp only [yg,y7,ye,yj hl,y6,zoh hk (show (c[z2v c s]).length≤1000000000 by omega) (show s.length≤1000000000 by omega)]
   have:¬ z7u c[z2v c s] s=0:=fun e=>h (by rw [← (z15k _ _).1 e]; exact y1l hl)
   rw [ya this]; rfl
  ·rw [ya (by omega),y5 (by simp)]; rfl
open Classical in
noncomputable def z71 (c d:Cx) (i:Nat):Bool:=decide (∀ s,c[i]?=some s→SimpP s∧z6z (fun a b=>z1d a b=true) c i s∧(1<s.length→∀ k,k<s.length→z11 s k∈d))
open Classical in
theorem z41 {c d:Cx} {i:Nat} {s:List Int} (h:c[i]?=some s):z71 c d i=true↔SimpP s∧z6z (fun a b=>z1d a b=true) c i s∧(1<s.length→∀ k,k<s.length→z11 s k∈d):=by
 unfold z71
 rw [y1d]
 exact ⟨fun q=>q s h,fun q t ht=>by rw [h] at ht; cases ht; exact q⟩
open Classical in
theorem z1na {k:Nat} (hk:KK≤k) {c:Cx} (hc:z4m c):zla k c=some (cxB c):=by
 have hK:=zg
 obtain ⟨hcl,hce⟩:=hc
 unfold zla
 by_cases h48:c.length≤48
 ·rw [ya (by omega),y5 (by simp)]
  have:=z5w (L:=fun n i=>z6u k n c i (some true)) (b:=c.length) (p:=fun i=>z71 c c i) (r:=some false) (e:=some true) ?_ ?_ (n:=k) (by omega)
  ·rw [this]
   have e:(List.range c.length).all (fun i=>z71 c c i)=true↔CxP c:=by
    rw [y17]
    constructor
    ·intro h
     have h':∀ i s,c[i]?=some s→SimpP s∧z6z (fun a b=>z1d a b=true) c i s∧(1<s.length→∀ k,k<s.length→z11 s k∈c):=fun i s hs=>(z41 hs).1 (h i (y1a.2 (yo.1 hs).1))
     refine ⟨h48,fun s hs=>?_,?_,fun s hs=>?_⟩
     ·obtain ⟨i,hi⟩:=y2w hs
      exact (h' i s hi).1
     ·have:=zof (R:=fun a b=>z1d a b=true) (fun a b c=>zif) (l:=c) (m:=c.length) (fun j hj x hx=>(h' j x hx).2.1)
      rwa [y31] at this
     ·obtain ⟨i,hi⟩:=y2w hs
      exact (h' i s hi).2.2
    ·intro h i hi
     rw [y1a] at hi
     exact (z41 (yj hi)).2 ⟨h.simp _ (y1l hi),zsj h.ord (yj hi),h.face _ (y1l hi)⟩
   by_cases q:CxP c
   ·rw [y4 (e.2 q),zaf.2 q]
   ·rw [y5 (fun h=>q (e.1 h))]
    congr 1
    symm
    rw [y3u,ne_eq,zaf]; exact q
  ·intro n i hi
   have hlt:(i:Int)<(c.length:Int):=by omega
   have hw:=zd (i:=i) (by omega)
   have hg:c[i]?=some c[i]:=yj hi
   have hsl:=hce c[i] (y1l hi)
   have hin:z8k k k c (i:Int) c[i] 0 (fun c_5 i_6=>z6u k n c_5 (z6 (i_6+1)) (some true))=if (∀ k,1<(c[i]).length→k<(c[i]).length→z11 c[i] k∈c) then z6u k n c ((i+1:Nat):Int) (some true) else some false:=by
    by_cases h1:1<(c[i]).length
    ·have:=z5w (L:=fun m j=>z8k k m c (i:Int) c[i] j (fun c_5 i_6=>z6u k n c_5 (z6 (i_6+1)) (some true))) (b:=(c[i]).length) (p:=fun j=>decide (z11 c[i] j∈c)) (r:=some false) (e:=z6u k n c ((i+1:Nat):Int) (some true)) ?_ ?_ (n:=k) (by omega)
     ·rw [this]
      simp only [y17,y1a,y1d]
      by_cases q:∀ j,j<(c[i]).length→z11 c[i] j∈c
      ·rw [y4 q,y4 (fun j _ hj=>q j hj)]
      ·rw [y5 q,y5 (fun h=>q fun j hj=>h j h1 hj)]
     ·intro m j hj
      have hjlt:(j:Int)<((c[i]).length:Int):=by omega
      have hw2:=zd (i:=j) (by omega)
      simp only [z8k,hjlt,y9,y7,yb (show (1:Int)<((c[i]).length:Int) by omega),zoi hsl hj,y6,z15m hk ⟨hcl,hce⟩,z15n,hw2]
      by_cases q:z11 c[i] j∈c
      ·rw [yb q]; simp
      ·rw [ya q]; simp
     ·intro m
      simp only [z8k,yw,yf,yc,y8,hw]
    ·rw [y4 (fun j h=>absurd h h1)]
     obtain ⟨m,hm⟩:∃ m,k=m+1:=⟨k-1,by omega⟩
     have hn1:¬ (1:Int)<((c[i]).length:Int):=by omega
     conv=>lhs; arg 2; rw [hm]
     simp only [z8k,hn1,yf,yc,y8,hw]
     split <;> rfl
   simp only [z6u,hlt,y9,y7,yg,ye,hg,y6,z1mv hk (show (c[i]).length≤1000000000 by omega)]
   cases hsb:zad c[i] with
   | false =>
    have:¬ z71 c c i=true:=fun h=>by
     have:=zae.2 ((z41 hg).1 h).1
     rw [hsb] at this; cases this
    rw [y5 this]; simp
   | true =>
    have hsp:=zae.1 hsb
    simp only [y14,yc,y8]
    by_cases h0:0<i
    ·have h0':(0:Int)<(i:Int):=by omega
     have hw1:z6 ((i:Int)-1)=((i-1:Nat):Int):=by rw [ze (by omega) (by omega)]; omega
     have hg1:c[i-1]?=some c[i-1]:=yj (by omega)
     have hpl:=hce c[i-1] (y1l (by omega))
     simp only [h0',y9,y7,hw1,yg,ye,hg1,y6,z1n3 hk (show (c[i-1]).length≤1000000000 by omega)]
     cases hbf:z1d c[i-1] c[i] with
     | false =>
      have:¬ z71 c c i=true:=fun h=>by
       have:z1d c[i-1] c[i]=true:=((z41 hg).1 h).2.1 h0 _ hg1
       rw [hbf] at this; cases this
      rw [y5 this]; simp
     | true =>
      simp only [y14,yc,y8,hin]
      by_cases q:∀ k,1<(c[i]).length→k<(c[i]).length→z11 c[i] k∈c
      ·rw [y4 q,y4 ((z41 hg).2 ⟨hsp,fun _ t ht=>by rw [hg1] at ht; cases ht; exact hbf,fun a b=>q b a⟩)]
      ·rw [y5 q,y5 (fun h=>q fun b a=>((z41 hg).1 h).2.2 a b)]
    ·have h0':¬ (0:Int)<(i:Int):=by omega
     simp only [h0',yf,yc,y8,hin]
     by_cases q:∀ k,1<(c[i]).length→k<(c[i]).length→z11 c[i] k∈c
     ·rw [y4 q,y4 ((z41 hg).2 ⟨hsp,fun h=>absurd h h0,fun a b=>q b a⟩)]
     ·rw [y5 q,y5 (fun h=>q fun b a=>((z41 hg).1 h).2.2 a b)]
  ·intro n
   simp only [z6u,yw,yf,yc,y8]
 ·rw [yb (by omega),y4 rfl]
  congr 1
  symm
  rw [y3u,ne_eq,zaf]
  exact fun h=>h48 h.len
theorem z1nb {c:Cx} (hc:z4m c) (i:Nat):z4m (c.take i):=⟨by rw [y1c]; have:=hc.1; omega,fun s hs=>hc.2 s (y2c hs)⟩
theorem z1nc {k:Nat} (hk:KK≤k) {c:Cx} (hc:z4m c) {i:Nat} (hi:i≤c.length) (hs:(c.take i).Pairwise (fun a b=>z1d a b=true)) {s:List Int} (hsl:s.length≤1048576):zi0 k (z23 s) (c,(i:Int))=some ((z23 s).any fun f=>!decide (f∈c.take i)):=by
 have hK:=zg
 have hcl:=hc.1
 have hfl:(z23 s).length≤1048576:=by
  unfold z23
  split
  ·rw [yp,y15]; exact hsl
  ·simp
 unfold zi0 zrj
 rw [zbg (L:=fun n j=>zfe k n (z23 s) (c,(i:Int)) ((z23 s).length:Int) j (some (-1))) (p:=fun f=>!decide (f∈c.take i)) (z23 s) ?_ ?_ (n:=k) (by omega)]
 ·rw [y6,zg5]
 ·intro n j f hj hlt
  have hw:=zd (i:=j) (by omega)
  have hf:f.length≤1048576:=by
   obtain ⟨_,q,hq,rfl⟩:=zig.1 (ym hj)
   rw [z90 hq]; omega
  have b1:(i:Int)≤(c.length:Int):=by omega
  simp only [zfe,zri,hlt,y9,y7,yg,y2e,b1,yz,ye,hj,y6,z15r hk (z1nb hc i) hs hf,z15n,hw]
 ·intro n
  simp [zfe]
theorem zoj {s:List Int} {d:Cx}:((z23 s).any fun f=>!decide (f∈d))=false↔(1<s.length→∀ k,k<s.length→z11 s k∈d):=by
 rw [y38]
 constructor
 ·intro h h1 k hk
  have:=h _ (zig.2 ⟨h1,k,hk,rfl⟩)
  simpa using this
 ·intro h f hf
  obtain ⟨h1,k,hk,rfl⟩:=zig.1 hf
  simpa using h h1 k hk
theorem z1nd {k:Nat} (hk:KK≤k) {c:Cx} (hc:z4m c):zmz k c=some (cxB c):=by
 have hK:=zg
 obtain ⟨hcl,hce⟩:=hc
 unfold zmz
 have:=z1mt (L:=fun n i=>zc7 k n c (c.length:Int) i c (fun v_9=>some (decide ((List.length v_9:Int)≤48)))) (b:=c.length) (p:=fun i=>z71 c (c.take i) i) (r:=some false) (e:=some (decide (c.length≤48))) ?_ ?_ (n:=k) (by omega)
 ·rw [this]
  have e:((List.range c.length).all (fun i=>z71 c (c.take i) i)=true∧c.length≤48)↔CxP c:=by
   rw [y17]
   constructor
   ·rintro ⟨h,h48⟩
    have h':∀ i s,c[i]?=some s→SimpP s∧z6z (fun a b=>z1d a b=true) c i s∧(1<s.length→∀ k,k<s.length→z11 s k∈c.take i):=fun i s hs=>(z41 hs).1 (h i (y1a.2 (yo.1 hs).1))
    refine ⟨h48,fun s hs=>?_,?_,fun s hs h1 k hk=>?_⟩
    ·obtain ⟨i,hi⟩:=y2w hs
     exact (h' i s hi).1
    ·have:=zof (R:=fun a b=>z1d a b=true) (fun a b c=>zif) (l:=c) (m:=c.length) (fun j hj x hx=>(h' j x hx).2.1)
     rwa [y31] at this
    ·obtain ⟨i,hi⟩:=y2w hs
     exact y2c ((h' i s hi).2.2 h1 k hk)
   ·intro h
    refine ⟨fun i hi=>?_,h.len⟩
    rw [y1a] at hi
    have hg:c[i]?=some c[i]:=yj hi
    refine (z41 hg).2 ⟨h.simp _ (y1l hi),zsj h.ord hg,fun h1 k hk=>?_⟩
    have hm:=h.face _ (y1l hi) h1 k hk
    obtain ⟨j,hj⟩:=y2w hm
    obtain ⟨hjl,hje⟩:=yo.1 hj
    have hji:j<i:=by
     by_cases q:j<i
     ·exact q
     ·have hb:z1d (z11 c[i] k) c[i]=true:=by
       unfold z1d
       rw [z90 hk,yb (by omega)]; rfl
      by_cases q2:j=i
      ·subst q2
       have:=zog c[j]
       rw [← hje,zog] at hb; cases hb
      ·have h3:=y4k.1 h.ord i j hi hjl (by omega)
       rw [hje,z1n0 hb] at h3; cases h3
    rw [List.mem_take_iff_getElem]
    exact ⟨j,by omega,hje⟩
  by_cases q:CxP c
  ·obtain ⟨q1,q2⟩:=e.2 q
   rw [y4 q1,yb q2,zaf.2 q]
  ·have:cxB c=false:=by rw [y3u,ne_eq,zaf]; exact q
   rw [this]
   by_cases q1:(List.range c.length).all (fun i=>z71 c (c.take i) i)=true
   ·rw [y4 q1,ya (fun q2=>q (e.1 ⟨q1,q2⟩))]
   ·rw [y5 q1]
 ·intro n i hi hpre
  have hlt:(i:Int)<(c.length:Int):=by omega
  have hw:=zd (i:=i) (by omega)
  have hg:c[i]?=some c[i]:=yj hi
  have hsl:=hce c[i] (y1l hi)
  have hsorted:(c.take i).Pairwise (fun a b=>z1d a b=true):=zof (R:=fun a b=>z1d a b=true) (fun a b c=>zif) (fun j hj x hx=>((z41 hx).1 (hpre j hj)).2.1)
  simp only [zc7,hlt,y9,y7,yg,ye,hg,y6,z1my hk (show (c[i]).length≤1000000000 by omega),z15o hk hsl,z1nc hk ⟨hcl,hce⟩ (Nat.le_of_lt hi) hsorted hsl,hw]
  cases hsb:zad c[i] with
  | false =>
   have:¬ z71 c (c.take i) i=true:=fun h=>by
    have:=zae.2 ((z41 hg).1 h).1
    rw [hsb] at this; cases this
   rw [y5 this]; simp
  | true =>
   have hsp:=zae.1 hsb
   simp only [y14,yc,y8]
   by_cases h0:0<i
   ·have h0':(0:Int)<(i:Int):=by omega
    have hw1:z6 ((i:Int)-1)=((i-1:Nat):Int):=by rw [ze (by omega) (by omega)]; omega
    have hg1:c[i-1]?=some c[i-1]:=yj (by omega)
    have hpl:=hce c[i-1] (y1l (by omega))
    simp only [h0',y9,y7,hw1,yg,ye,hg1,y6,zoh hk (show (c[i-1]).length≤1000000000 by omega) (show (c[i]).length≤1000000000 by omega),z1n1]
    cases hbf:z1d c[i-1] c[i] with
    | false =>
     have:¬ z71 c (c.take i) i=true:=fun h=>by
      have:z1d c[i-1] c[i]=true:=((z41 hg).1 h).2.1 h0 _ hg1
      rw [hbf] at this; cases this
     rw [y5 this]; simp
    | true =>
     simp only [y14,yc,y8]
     cases hq:(z23 c[i]).any fun f=>!decide (f∈c.take i) with
     | false =>
      rw [y5 (by simp),y4 ((z41 hg).2 ⟨hsp,fun _ t ht=>by rw [hg1] at ht; cases ht; exact hbf,zoj.1 hq⟩)]
     | true =>
      rw [y4 rfl,y5 (fun h=>by rw [zoj.2 ((z41 hg).1 h).2.2] at hq; cases hq)]
   ·have h0':¬ (0:Int)<(i:Int):=by omega
    simp only [h0',yf,yc,y8]
    cases hq:(z23 c[i]).any fun f=>!decide (f∈c.take i) with
    | false =>
     rw [y5 (by simp),y4 ((z41 hg).2 ⟨hsp,fun h=>absurd h h0,zoj.1 hq⟩)]
    | true =>
     rw [y4 rfl,y5 (fun h=>by rw [zoj.2 ((z41 hg).1 h).2.2] at hq; cases hq)]
 ·intro n
  have e2:decide ((c.length:Int)≤48)=decide (c.length≤48):=decide_eq_decide.2 (by omega)
  simp only [zc7,yw,yf,yc,y8,e2]
abbrev She:=Cx×Int×List Int×List Mat
def ofC (c:Cx) (d:Int):List Nat:=(List.range c.length).filter fun i=>match c[i]? with | some s=>decide ((s.length:Int)=d+1) | none=>false
theorem zg8 {c:Cx} {d:Int} {i:Nat} (h:i∈ofC c d):i<c.length:=y1a.1 (y2n.1 h).1
theorem zok (c:Cx) (d:Int):(ofC c d).length≤c.length:=by
 unfold ofC
 exact y1o (y5r ..) (by rw [y15]; exact yr _)
theorem zih (f:Nat→Bool) (n:Nat):(List.range (n+1)).filter f=(List.range n).filter f++(if f n=true then [n] else []):=by
 rw [y35,List.filter_append,List.filter_cons,List.filter_nil]
theorem zsm {k:Nat} (hk:KK≤k) {c:Cx} (hc:z4m c) {d:Int} (hd : -1000≤d∧d≤1000):zhr k c d=some ((ofC c d).map fun i:Nat=>(i:Int)):=by
 have hK:=zg
 have hL:=z1q
 obtain ⟨hcl,hce⟩:=hc
 have hwd:z6 (d+1)=d+1:=ze (by omega) (by omega)
 unfold zhr
 have:=z26 (α:=List Int) (A:=List Int) (L:=fun n i q=>zbn k n c d i q (fun q_4=>some q_4)) (I:=fun pre q=>q=((List.range pre.length).filter fun i=>match c[i]? with | some s=>decide ((s.length:Int)=d+1) | none=>false).map fun i:Nat=>(i:Int)) (G:=fun _ _=>some ((ofC c d).map fun i:Nat=>(i:Int))) c ?_ ?_ k (by omega) [] (by simp)
 ·exact this
 ·intro n pre x post q hx hq ih hg hlt
  have hw:=zd (i:=pre.length) (by omega)
  have hql:q.length≤pre.length:=by rw [hq,yp]; exact y1o (y5r ..) (by rw [y15]; exact yr _)
  have hlim:(q.length+1)*8≤LIM:=by omega
  simp only [zbn,hlt,y9,y7,yg,ye,hg,y6,hw,hwd,yy,hlim]
  by_cases hb:(x.length:Int)=d+1
  ·rw [yb hb,y4 rfl]
   refine ih _ ?_
   rw [yl,yy,zih,hg]
   simp only [hb,y9,y7,y25,hq,y1j,y33]
  ·rw [ya hb,y5 (by simp)]
   refine ih _ ?_
   rw [yl,yy,zih,hg]
   simp only [hb,yf,yc,y8,y1t,hq]
 ·intro n q hq
  simp only [zbn,yw,yf,yc,y8,hq]
  rfl
theorem zol {k:Nat} (hk:KK≤k) {c:Cx} (hc:z4m c) {d:Int} (hd : -1000≤d∧d≤1000):zfh k c d=some ((ofC c d).map fun i:Nat=>(i:Int)):=by
 have hK:=zg
 have hL:=z1q
 obtain ⟨hcl,hce⟩:=hc
 have hwd:z6 (d+1)=d+1:=ze (by omega) (by omega)
 unfold zfh
 have:=z26 (α:=List Int) (A:=List Int) (L:=fun n i q=>zc8 k n d c (c.length:Int) i q (fun q_4=>some q_4)) (I:=fun pre q=>q=((List.range pre.length).filter fun i=>match c[i]? with | some s=>decide ((s.length:Int)=d+1) | none=>false).map fun i:Nat=>(i:Int)) (G:=fun _ _=>some ((ofC c d).map fun i:Nat=>(i:Int))) c ?_ ?_ k (by omega) [] (by simp)
 ·exact this
 ·intro n pre x post q hx hq ih hg hlt
  have hw:=zd (i:=pre.length) (by omega)
  have hql:q.length≤pre.length:=by rw [hq,yp]; exact y1o (y5r ..) (by rw [y15]; exact yr _)
  have hlim:(q.length+1)*8≤LIM:=by omega
  simp only [zc8,z7m,hlt,y9,y7,yg,ye,hg,y6,hw,hwd,yy,hlim]
  by_cases hb:(x.length:Int)=d+1
  ·rw [yb hb,y4 rfl]
   refine ih _ ?_
   rw [yl,yy,zih,hg]
   simp only [hb,y9,y7,y25,hq,y1j,y33]
  ·rw [ya hb,y5 (by simp)]
   refine ih _ ?_
   rw [yl,yy,zih,hg]
   simp only [hb,yf,yc,y8,y1t,hq]
 ·intro n q hq
  simp only [zc8,yw,yf,yc,y8,hq]
  rfl
structure StP (c:Cx) (st:List Int):Prop where
 len:st.length=c.length
 val:∀ x∈st,0≤x∧x≤3
def zk (st:List Int) (l:List Nat):Int:=(l.map fun i=>st.getD i 0).sum
theorem zom (st:List Int) (l:List Nat) (i:Nat):zk st (l++[i])=zk st l+st.getD i 0:=by unfold zk; simp
theorem z7v {c:Cx} {st:List Int} (h:StP c st) {i:Nat} (hi:i<c.length):st[i]?=some (st.getD i 0)∧0≤st.getD i 0∧st.getD i 0≤3:=by
 have hl:i<st.length:=by rw [h.len]; exact hi
 have e:st.getD i 0=st[i]:=by rw [y16,yj hl]; rfl
 rw [e]
 exact ⟨yj hl,h.val _ (y1l hl)⟩
theorem zag {c:Cx} {st:List Int} (h:StP c st):∀ (l:List Nat),(∀ i∈l,i<c.length)→0≤zk st l∧zk st l≤3*l.length
 | [],_=>by simp [zk]
 | i::l,hl=>by
  have ih:=zag h l (fun j hj=>hl j (by simp [hj]))
  have:=z7v h (hl i (by simp))
  have e:zk st (i::l)=st.getD i 0+zk st l:=by unfold zk; simp
  rw [e,y1k]
  omega
theorem zcr {k:Nat} (hk:KK≤k) {c:Cx} (hc:z4m c) {st:List Int} (h:StP c st) {d:Int} (hd : -1000≤d∧d≤1000):za0 k c st d=some (zk st (ofC c d)):=by
 have hK:=zg
 have hol:=zok c d
 have hcl:=hc.1
 unfold za0
 rw [zsm hk hc hd]
 simp only [y6]
 have:=z26 (α:=Nat) (A:=Int) (L:=fun n i z=>zev k n st z i ((ofC c d).map fun i:Nat=>(i:Int)) (fun z=>some z)) (I:=fun pre z=>z=zk st pre) (G:=fun _ _=>some (zk st (ofC c d))) (ofC c d) ?_ ?_ k (by omega) 0 rfl
 ·exact this
 ·intro n pre x post z hx hz ih hg hlt
  have hw:=zd (i:=pre.length) (by omega)
  have hxc:x<c.length:=zg8 (by rw [hx]; simp:x∈ofC c d)
  have hF:((ofC c d).map fun i:Nat=>(i:Int))[pre.length]?=some (x:Int):=by rw [yu,hg]; rfl
  have hpl:pre.length<(ofC c d).length:=by omega
  obtain ⟨s1,s2,s3⟩:=z7v h hxc
  have hb:=zag h pre (fun j hj=>zg8 (by rw [hx]; simp [hj]:j∈ofC c d))
  have hwz:z6 (z+st.getD x 0)=z+st.getD x 0:=ze (by omega) (by omega)
  simp only [zev,yp,hlt,hpl,y9,y7,yg,ye,yz,hF,s1,y6,hw,hwz]
  exact ih _ (by rw [zom,hz])
 ·intro n z hz
  simp only [zev,yp,yw,yf,yc,y8,hz]
theorem zcs {k:Nat} (hk:KK≤k) {s:She} (hc:z4m s.1) (h:StP s.1 s.2.2.1) {d:Int} (hd : -1000≤d∧d≤1000):za6 k s d=some (zk s.2.2.1 (ofC s.1 d)):=by
 have hK:=zg
 have hol:=zok s.1 d
 have hcl:=hc.1
 unfold za6
 rw [zol hk hc hd]
 simp only [y6,yp]
 have:=z26 (α:=Nat) (A:=Int) (L:=fun n i z=>zfi k n z ((ofC s.1 d).length:Int) i ((ofC s.1 d).map fun i:Nat=>(i:Int)) s (fun z=>some z)) (I:=fun pre z=>z=zk s.2.2.1 pre) (G:=fun _ _=>some (zk s.2.2.1 (ofC s.1 d))) (ofC s.1 d) ?_ ?_ k (by omega) 0 rfl
 ·exact this
 ·intro n pre x post z hx hz ih hg hlt
  have hw:=zd (i:=pre.length) (by omega)
  have hxc:x<s.1.length:=zg8 (by rw [hx]; simp:x∈ofC s.1 d)
  have hF:((ofC s.1 d).map fun i:Nat=>(i:Int))[pre.length]?=some (x:Int):=by rw [yu,hg]; rfl
  have hpl:pre.length<(ofC s.1 d).length:=by omega
  obtain ⟨s1,s2,s3⟩:=z7v h hxc
  have hb:=zag h pre (fun j hj=>zg8 (by rw [hx]; simp [hj]:j∈ofC s.1 d))
  have hwz:z6 (z+s.2.2.1.getD x 0)=z+s.2.2.1.getD x 0:=ze (by omega) (by omega)
  simp only [zfi,yp,hlt,hpl,y9,y7,yg,ye,yz,hF,s1,y6,hw,hwz]
  exact ih _ (by rw [zom,hz])
 ·intro n z hz
  simp only [zfi,yw,yf,yc,y8,hz]
noncomputable instance stP_dec (c:Cx) (st:List Int):Decidable (StP c st):=Classical.propDecidable _
noncomputable def stB (c:Cx) (st:List Int):Bool:=decide (StP c st)&&(List.range 4).all fun d=>decide (zk st (ofC c (d:Int))≤32)
theorem zsn {c:Cx} {st:List Int} (h:stB c st=true):StP c st:=by
 unfold stB at h
 rw [yh,y1d] at h
 exact h.1
theorem z15s {c:Cx} {st:List Int}:(st.all (fun x=>decide (0≤x∧x≤4-1))&&decide ((st.length:Int)=(c.length:Int)))=true↔StP c st:=by
 simp only [yh,y17,y1d]
 exact ⟨fun h=>⟨by omega,fun x hx=>by have:=h.1 x hx; omega⟩,fun h=>⟨fun x hx=>by have:=h.val x hx; omega,by have:=h.len; omega⟩⟩
theorem z1ne {k:Nat} (hk:KK≤k) {c:Cx} (hc:z4m c) {st:List Int} (hs:st.length≤1048576):zlt k c st=some (stB c st):=by
 have hK:=zg
 unfold zlt
 rw [zia hk hs _ (by omega)]
 simp only [y6]
 by_cases h:StP c st
 ·rw [z15s.2 h]
  simp only [y14,yc,y8]
  have:=z5w (L:=fun n i=>zew k n c st i (some true)) (b:=4) (p:=fun d:Nat=>decide (zk st (ofC c (d:Int))≤32)) (r:=some false) (e:=some true) ?_ ?_ (n:=k) (by omega)
  ·rw [this]
   unfold stB
   rw [yb h,y1m]
   cases (List.range 4).all fun d=>decide (zk st (ofC c (d:Int))≤32) <;> rfl
  ·intro n i hi
   have hlt:(i:Int)≤3:=by omega
   have hw:=zd (i:=i) (by omega)
   simp only [zew,hlt,y9,y7,zcr hk hc h (d:=(i:Int)) (by omega),y6,hw]
   by_cases c1:zk st (ofC c (i:Int))≤32
   ·rw [yb c1,ya (by omega),y5 (by simp),y4 rfl]
   ·rw [ya c1,yb (by omega),y4 rfl,y5 (by simp)]
  ·intro n
   have:¬ (((4:Nat):Int)≤3):=by omega
   simp only [zew,this,yf,yc,y8]
 ·have h2:(st.all (fun x=>decide (0≤x∧x≤4-1))&&decide ((st.length:Int)=(c.length:Int)))=false:=by rw [y3u,ne_eq,z15s]; exact h
  rw [h2,y4 (by simp)]
  unfold stB
  rw [ya h]; rfl
theorem z1nf {k:Nat} (hk:KK≤k) {c:Cx} (hc:z4m c) {st:List Int} (hs:st.length≤1048576):zn1 k c st=some (stB c st):=by
 have hK:=zg
 have hcf:zn0 k st ()=some (st.any fun x=>!decide (0≤x∧x≤3)):=by
  unfold zn0 zrl
  rw [zbg (L:=fun n i=>zfg k n st () (st.length:Int) i (some (-1))) (p:=fun x=>!decide (0≤x∧x≤3)) st ?_ ?_ (n:=k) (by omega)]
  ·rw [y6,zg5]
  ·intro n i x hi hlt
   have hw:=zd (i:=i) (by omega)
   simp only [zfg,zrk,z6x,hlt,y9,y7,yg,ye,hi,y6,hw]
  ·intro n
   simp [zfg]
 unfold zn1
 rw [hcf]
 simp only [y6]
 by_cases hl:st.length=c.length
 ·rw [yb (show (st.length:Int)=(c.length:Int) by omega),y5 (by simp)]
  by_cases hv:∀ x∈st,0≤x∧x≤3
  ·have h:StP c st:=⟨hl,hv⟩
   have ha:(st.any fun x=>!decide (0≤x∧x≤3))=false:=by
    rw [y38]; intro x hx; simp [hv x hx]
   rw [ha,y5 (by simp)]
   have:=z5w (L:=fun n i=>zfj k n st i c (some true)) (b:=4) (p:=fun d:Nat=>decide (zk st (ofC c (d:Int))≤32)) (r:=some false) (e:=some true) ?_ ?_ (n:=k) (by omega)
   ·rw [this]
    unfold stB
    rw [yb h,y1m]
    cases (List.range 4).all fun d=>decide (zk st (ofC c (d:Int))≤32) <;> rfl
   ·intro n i hi
    have hlt:(i:Int)<4:=by omega
    have hw:=zd (i:=i) (by omega)
    have hst:=zcs hk (s:=(c,0,st,[])) hc h (d:=(i:Int)) (by omega)
    simp only at hst
    simp only [zfj,hlt,y9,y7,hst,y6,hw]
    by_cases c1:zk st (ofC c (i:Int))≤32
    ·rw [yb c1,ya (by omega),y5 (by simp),y4 rfl]
    ·rw [ya c1,yb (by omega),y4 rfl,y5 (by simp)]
   ·intro n
    have:¬ (((4:Nat):Int)<4):=by omega
    simp only [zfj,this,yf,yc,y8]
  ·have ha:(st.any fun x=>!decide (0≤x∧x≤3))=true:=by
    rw [y3h]
    apply y2m
    intro hn
    apply hv
    intro x hx
    apply y2m
    intro hx2
    exact hn ⟨x,hx,by simp only [y1h,decide_eq_false_iff_not]; exact hx2⟩
   rw [ha,y4 rfl]
   unfold stB
   rw [ya (fun h:StP c st=>hv h.val)]; rfl
 ·rw [ya (show ¬ (st.length:Int)=(c.length:Int) by omega),y4 (by simp)]
  unfold stB
  rw [ya (fun h:StP c st=>hl h.len)]; rfl
def zf (c:Cx) (s:List Int):List Nat:=(z23 s).map (z2p c)
theorem z15t (s:List Int):(z23 s).length=if 1<s.length then s.length else 0:=by
 unfold z23
 split
 ·rw [yp,y15]
 ·rfl
theorem z92 (c:Cx) (s:List Int):(zf c s).length=if 1<s.length then s.length else 0:=by unfold zf; rw [List.length_map,z15t]
theorem z15u {c:Cx} (h:CxP c) {s:List Int} (hs:s∈c) {f:Nat} (hf:f∈zf c s):f<c.length:=by
 unfold zf at hf
 obtain ⟨g,hg,rfl⟩:=y1f.1 hf
 obtain ⟨h1,j,hj,rfl⟩:=zig.1 hg
 exact z91.2 (h.face s hs h1 j hj)
theorem z42 {c:Cx} (h:CxP c):z4m c:=⟨by have:=h.len; omega,fun s hs=>by have:=(h.simp s hs).len4; omega⟩
theorem zso {k:Nat} (hk:KK≤k) {c:Cx} (h:CxP c) {j:Nat} {s:List Int} (hj:c[j]?=some s):zey k c (j:Int)=some ((zf c s).map fun i:Nat=>(i:Int)):=by
 have hK:=zg
 have hL:=z1q
 have hm:=ym hj
 have hs4:=(h.simp s hm).len4
 have hsc:=z42 h
 unfold zey
 rw [y4 (yg _),ye,hj]
 simp only [y6]
 by_cases c1:1<s.length
 ·have:=z26 (α:=Nat) (A:=List Int) (L:=fun n i q=>zbp k n c s i q (fun q_5=>some q_5)) (I:=fun pre q=>q=(List.range pre.length).map fun i=>((z2p c (z11 s i):Nat):Int)) (G:=fun _ _=>some ((zf c s).map fun i:Nat=>(i:Int))) (List.range s.length) ?_ ?_ k (by simp; omega) [] (by simp)
  ·exact this
  ·intro n pre x post q hx hq ih hg hlt
   rw [y15] at hlt
   have hpl:pre.length<s.length:=by omega
   have hw:=zd (i:=pre.length) (by omega)
   have hlim:(q.length+1)*8≤LIM:=by rw [hq,yp,y15]; omega
   have hin:=h.face s hm c1 pre.length hpl
   have c1':(1:Int)<(s.length:Int):=by omega
   simp only [zbp,hlt,c1',y9,y7,zoi (show s.length≤1048576 by omega) hpl,z15m hk hsc,z91.2 hin,y6,yy,hlim,hw]
   refine ih _ ?_
   rw [hq,yl,yy,y35,y25]
   rfl
  ·intro n q hq
   rw [y15] at hq ⊢
   simp only [zbp,yw,yf,yc,y8,hq]
   unfold zf z23
   rw [y4 c1,y30,y30]
   rfl
 ·obtain ⟨n,hn⟩:∃ n,k=n+1:=⟨k-1,by omega⟩
  have c1':¬ (1:Int)<(s.length:Int):=by omega
  conv=>lhs; arg 2; rw [hn]
  simp only [zbp,c1',yf,yc,y8]
  unfold zf z23
  rw [y5 c1]
  split <;> rfl
theorem zct {k:Nat} (hk:KK≤k) {c:Cx} (h:CxP c) {j:Nat} {s:List Int} (hj:c[j]?=some s):z8v k c (j:Int)=some ((zf c s).map fun i:Nat=>(i:Int)):=by
 have hK:=zg
 have hL:=z1q
 have hm:=ym hj
 have hs4:=(h.simp s hm).len4
 have hsc:=z42 h
 have hfl:=z15t s
 have hfl':(z23 s).length≤4:=by rw [hfl]; split <;> omega
 unfold z8v
 rw [y4 (yg _),ye,hj]
 simp only [y6,z15o hk (show s.length≤1048576 by omega)]
 have:=z26 (α:=List Int) (A:=List Int) (L:=fun n i q=>zfk k n ((z23 s).length:Int) i q (z23 s) c (fun q_8=>some q_8)) (I:=fun pre q=>q=pre.map fun f=>((z2p c f:Nat):Int)) (G:=fun _ _=>some ((zf c s).map fun i:Nat=>(i:Int))) (z23 s) ?_ ?_ k (by omega) [] rfl
 ·exact this
 ·intro n pre x post q hx hq ih hg hlt
  have hpl:pre.length<(z23 s).length:=by omega
  have hw:=zd (i:=pre.length) (by omega)
  have hlim:(q.length+1)*8≤LIM:=by rw [hq,yp]; omega
  obtain ⟨h1,i,hi,rfl⟩:=zig.1 (ym hg)
  have hin:=h.face s hm h1 i hi
  simp only [zfk,hlt,hpl,y9,y7,yg,ye,yz,hg,z15r hk hsc h.ord (show (z11 s i).length≤1048576 by rw [z90 hi]; omega),z91.2 hin,y6,yy,hlim,hw]
  exact ih _ (by rw [hq,y25]; rfl)
 ·intro n q hq
  simp only [zfk,yw,yf,yc,y8,hq]
  unfold zf
  rw [y30]
  rfl
def z3a (c:Cx) (j:Nat):List (Nat×Nat×Nat):=match c[j]? with
 | some s=>(List.range (zf c s).length).map fun i=>(j,i,(zf c s).getD i 0)
 | none=>[]
def zm (c:Cx) (n:Nat):List (Nat×Nat×Nat):=(List.range n).flatMap (z3a c)
theorem zcu (c:Cx) (n:Nat):zm c (n+1)=zm c n++z3a c n:=by unfold zm; rw [List.range_succ,List.flatMap_append]; simp
theorem zon {c:Cx} {j:Nat} {s:List Int} (hj:c[j]?=some s):(z3a c j).length=if 1<s.length then s.length else 0:=by
 unfold z3a; rw [hj]; simp only [List.length_map,List.length_range,z92]
theorem z15v {c:Cx} {j i:Nat} {s:List Int} (hj:c[j]?=some s) (hi:i<(zf c s).length):(z3a c j)[i]?=some (j,i,(zf c s).getD i 0):=by
 unfold z3a; rw [hj]; simp only [List.getElem?_map,List.getElem?_range hi]; rfl
theorem z93 {c:Cx} (h:CxP c):∀ n,n≤c.length→(zm c n).length≤4*n
 | 0,_=>by simp [zm]
 | n+1,hn=>by
  have ih:=z93 h n (by omega)
  have hg:c[n]?=some c[n]:=yj (by omega)
  have h4:=(h.simp _ (ym hg)).len4
  rw [zcu,yl,zon hg]
  split <;> omega
theorem z1ng (c:Cx) {a b:Nat} (h:a≤b):(zm c a).length≤(zm c b).length:=by
 induction b with
 | zero=>rw [show a=0 by omega]; exact yr _
 | succ b ih =>
  by_cases e:a=b+1
  ·rw [e]; exact yr _
  ·have:=ih (by omega)
   rw [zcu,yl]; omega
theorem zsp {k:Nat} (hk:KK≤k) {c:Cx} (h:CxP c) {j i:Nat} (hj:j≤c.length) (hi:i≤4):zex k c (j:Int) (i:Int)=some (((zm c j).length+i:Nat):Int):=by
 have hK:=zg
 have hcl:=h.len
 unfold zex
 have:=z26 (α:=Nat) (A:=Int) (L:=fun n p z=>zbo k n c (j:Int) (i:Int) z p (fun i_3 at_4=>some (z6 (at_4+i_3)))) (I:=fun pre z=>z=((zm c pre.length).length:Int)) (G:=fun _ _=>some (((zm c j).length+i:Nat):Int)) (List.range j) ?_ ?_ k (by simp; omega) 0 rfl
 ·exact this
 ·intro n pre x post z hx hz ih hg hlt
  rw [y15] at hlt
  have hpl:pre.length<c.length:=by omega
  have hw:=zd (i:=pre.length) (by omega)
  have hgc:c[pre.length]?=some c[pre.length]:=yj hpl
  have h4:=(h.simp _ (ym hgc)).len4
  have hal:=z93 h pre.length (by omega)
  have hnx:(zm c (pre.length+1)).length=(zm c pre.length).length+(if 1<(c[pre.length]).length then (c[pre.length]).length else 0):=by rw [zcu,yl,zon hgc]
  simp only [zbo,hlt,y9,y7,yg,ye,hgc,y6,hw]
  by_cases c1:1<(c[pre.length]).length
  ·have hwz:z6 (z+((c[pre.length]).length:Int))=z+((c[pre.length]).length:Int):=ze (by omega) (by omega)
   rw [yb (by omega),y4 rfl,hwz]
   refine ih _ ?_
   rw [y4 c1] at hnx
   rw [yl,yy,hnx,hz]; rfl
  ·rw [ya (by omega),y5 (by simp)]
   refine ih _ ?_
   rw [y5 c1] at hnx
   rw [yl,yy,hnx,hz]; rfl
 ·intro n z hz
  rw [y15] at hz ⊢
  have hal:=z93 h j hj
  have hwz:z6 (z+(i:Int))=(((zm c j).length+i:Nat):Int):=by rw [ze (by omega) (by omega)]; omega
  simp only [zbo,yw,yf,yc,y8,hwz]
def z6c (a:Nat×Nat×Nat):Int×Int×Int:=((a.1:Int),(a.2.1:Int),(a.2.2:Int))
theorem z1nh {k:Nat} (hk:KK≤k) {c:Cx} (h:CxP c):zn2 k c=some ((zm c c.length).map z6c):=by
 have hK:=zg
 have hL:=z1q
 have hcl:=h.len
 unfold zn2 zro
 simp only [y6]
 have:=z26 (α:=List Int) (A:=List (Int×Int×Int)) (L:=fun n i q=>zfl k n (c.length:Int) i q c (fun q_8=>some q_8)) (I:=fun pre q=>q=(zm c pre.length).map z6c) (G:=fun _ _=>some ((zm c c.length).map z6c)) c ?_ ?_ k (by omega) [] rfl
 ·exact this
 ·intro n pre x post q hx hq ih hg hlt
  have hw:=zd (i:=pre.length) (by omega)
  have hpl:pre.length<c.length:=by omega
  have h4:=(h.simp _ (ym hg)).len4
  have hal:=z93 h pre.length (by omega)
  have hfl:=z92 c x
  have hfl4:(zf c x).length≤4:=by rw [hfl]; split <;> omega
  simp only [zfl,hlt,y9,y7,zct hk h hg,y6,yp]
  have inner:∀ E:Int→Int→List (Int×Int×Int)→Cx→Option (List (Int×Int×Int)),zc9 k k (pre.length:Int) (c.length:Int) (pre.length:Int) ((zf c x).length:Int) 0 q ((zf c x).map fun i:Nat=>(i:Int)) c E=E (c.length:Int) (pre.length:Int) ((zm c (pre.length+1)).map z6c) c:=by
   intro E
   have:=z26 (α:=Nat) (A:=List (Int×Int×Int)) (L:=fun n i r=>zc9 k n (pre.length:Int) (c.length:Int) (pre.length:Int) ((zf c x).length:Int) i r ((zf c x).map fun i:Nat=>(i:Int)) c E) (I:=fun pre2 r=>r=((zm c pre.length)++(List.range pre2.length).map fun i=>(pre.length,i,(zf c x).getD i 0)).map z6c) (G:=fun _ _=>E (c.length:Int) (pre.length:Int) ((zm c (pre.length+1)).map z6c) c) (zf c x) ?_ ?_ k (by omega) q (by simp [hq])
   ·exact this
   ·intro n pre2 f post2 r hx2 hr ih2 hg2 hlt2
    have hpl2:pre2.length<(zf c x).length:=by omega
    have hw2:=zd (i:=pre2.length) (by omega)
    have hF:((zf c x).map fun i:Nat=>(i:Int))[pre2.length]?=some (f:Int):=by rw [yu,hg2]; rfl
    have hlim:(r.length+1)*24≤LIM:=by rw [hr,yp,yl,yp,y15]; omega
    have hgd:(zf c x).getD pre2.length 0=f:=by rw [y16,hg2]; rfl
    simp only [zc9,yp,hlt2,hpl2,y9,y7,yg,ye,yz,hF,y6,yy,hlim,hw2]
    refine ih2 _ ?_
    rw [hr,yl,yy,y35,y25 (l₁:=List.range pre2.length),← y11,y25 (f:=z6c) (l₁:=zm c pre.length++_)]
    show _=_++[z6c (pre.length,pre2.length,(zf c x).getD pre2.length 0)]
    rw [hgd]; rfl
   ·intro n r hr
    have e:z3a c pre.length=(List.range (zf c x).length).map fun i=>(pre.length,i,(zf c x).getD i 0):=by unfold z3a; rw [hg]
    simp only [zc9,yw,yf,yc,y8,hr]
    rw [zcu,e]
  rw [inner,hw]
  exact ih _ (by rw [yl,yy])
 ·intro n q hq
  simp only [zfl,yw,yf,yc,y8,hq]
noncomputable def zah (k:Nat) (m:Mat):Bool:=(zez k m).getD false
theorem zsq {k:Nat} (hk:KK≤k) {m:Mat} (hv:m.2.2.2.length≤1048576):zez k m=some (zah k m)∧zi3 k m=some (zah k m)∧(zah k m=true→∃ R C,MatP m R C):=by
 obtain ⟨b,h1,h2,h3⟩:=z1mc hk hv
 have e:zah k m=b:=by unfold zah; rw [h1]; rfl
 rw [e]
 exact ⟨h1,h2,h3⟩
noncomputable def zai (k:Nat) (p:Int):Bool:=(zbm k p).getD false
theorem zsr {k:Nat} (hk:KK≤k) (p:Int):zbm k p=some (zai k p)∧zff k p=some (zai k p)∧(zai k p=true→2≤p∧p≤251):=by
 obtain ⟨b,h1,h2,h3⟩:=z14s hk p
 have e:zai k p=b:=by unfold zai; rw [h1]; rfl
 rw [e]
 exact ⟨h1,h2,h3⟩
noncomputable def okA (k:Nat) (s:She) (a:Nat×Nat×Nat) (m:Mat):Bool:=zah k m&&(decide (m.1=s.2.1)&&(decide (m.2.1=s.2.2.1.getD a.1 0)&&decide (m.2.2.1=s.2.2.1.getD a.2.2 0)))
noncomputable def z94 (k:Nat) (s:She) (o:Nat) (l:List (Nat×Nat×Nat)) (i:Nat):Bool:=match l[i]? with
 | some a=>(match s.2.2.2[o+i]? with | some m=>okA k s a m | none=>false)
 | none=>true
def chk (k:Nat) (s:She) (o:Nat) (l:List (Nat×Nat×Nat)):Prop:=∀ j a,l[j]?=some a→∃ m,s.2.2.2[o+j]?=some m∧okA k s a m=true
theorem z15w {k:Nat} {s:She} {o:Nat} {l:List (Nat×Nat×Nat)}:(List.range l.length).all (z94 k s o l)=true↔chk k s o l:=by
 simp only [y17,y1a]
 constructor
 ·intro z i a ha
  have:=z i (yo.1 ha).1
  unfold z94 at this
  rw [ha] at this
  cases hm:s.2.2.2[o+i]? with
  | none=>rw [hm] at this; cases this
  | some m=>rw [hm] at this; exact ⟨m,rfl,this⟩
 ·intro z i hi
  obtain ⟨m,h1,h2⟩:=z i _ (yj hi)
  unfold z94
  rw [yj hi,h1]
  exact h2
theorem z1ni {k:Nat} {s:She} {o:Nat} {l r:List (Nat×Nat×Nat)}:chk k s o (l++r)↔chk k s o l∧chk k s (o+l.length) r:=by
 constructor
 ·intro h
  refine ⟨fun j a hj=>h j a (by rw [y1w (yo.1 hj).1]; exact hj),fun j a hj=>?_⟩
  have:=h (l.length+j) a (by rw [y1r (by omega),y3i]; exact hj)
  rwa [← y44] at this
 ·rintro ⟨h1,h2⟩ j a hj
  by_cases c:j<l.length
  ·rw [y1w c] at hj; exact h1 j a hj
  ·rw [y1r (by omega)] at hj
   have:=h2 (j-l.length) a hj
   rwa [show o+l.length+(j-l.length)=o+j by omega] at this
theorem zss {k:Nat} {s:She}:∀ n,(∀ j,j<n→chk k s (zm s.1 j).length (z3a s.1 j))↔chk k s 0 (zm s.1 n)
 | 0=>by
  constructor
  ·intro _ j a hj; simp [zm] at hj
  ·intro _ j hj; omega
 | n+1=>by
  rw [zcu,z1ni,← zss n,y18]
  constructor
  ·intro h; exact ⟨fun j hj=>h j (by omega),h n (by omega)⟩
  ·rintro ⟨h1,h2⟩ j hj
   by_cases e:j=n
   ·subst e; exact h2
   ·exact h1 j (by omega)
open Classical in
noncomputable def z1f (k:Nat) (s:She):Bool:=cxB s.1&&(zai k s.2.1&&(stB s.1 s.2.2.1&&decide (s.2.2.2.length=(zm s.1 s.1.length).length∧chk k s 0 (zm s.1 s.1.length))))
structure smallSh (s:She):Prop where
 cx:z4m s.1
 st:s.2.2.1.length≤1048576
 maps:s.2.2.2.length≤1048576
 cells:∀ m∈s.2.2.2,m.2.2.2.length≤1048576
theorem z1nj {c:Cx} (h:CxP c) {n j:Nat} {a:Nat×Nat×Nat} (hn:n≤c.length) (hj:(zm c n)[j]?=some a):a.1<c.length∧a.2.2<c.length:=by
 have hm:=ym hj
 unfold zm at hm
 obtain ⟨i,hi,ha⟩:=y1e.1 hm
 rw [y1a] at hi
 have hg:c[i]?=some c[i]:=yj (by omega)
 unfold z3a at ha
 rw [hg] at ha
 obtain ⟨p,hp,rfl⟩:=y1f.1 ha
 rw [y1a] at hp
 refine ⟨by show i<_; omega,z15u h (ym hg) ?_⟩
 show (zf c c[i]).getD p 0∈_
 rw [y16,yj hp]
 exact y1l hp
open Classical in
theorem z1nk {k:Nat} (hk:KK≤k) {s:She} (hs:smallSh s):zlv k s=some (z1f k s):=by
 have hK:=zg
 unfold zlv z1f
 obtain ⟨p1,p2,p3⟩:=zsr hk s.2.1
 rw [z1na hk hs.cx,p1,z1ne hk hs.cx hs.st]
 cases hcx:cxB s.1 with
 | false=>simp
 | true =>
 cases zai k s.2.1 with
 | false=>simp
 | true =>
 cases hst:stB s.1 s.2.2.1 with
 | false=>simp
 | true =>
  have h:=zaf.1 hcx
  have hS:=zsn hst
  have hcl:=h.len
  have hal:=z93 h s.1.length (yr _)
  have hcount:zlu k s.1=some ((zm s.1 s.1.length).length:Int):=by
   unfold zlu
   have:=zsp hk h (j:=s.1.length) (i:=0) (yr _) (by omega)
   rw [y2o] at this
   rw [show ((0:Nat):Int)=0 from rfl] at this
   rw [this]; rfl
  simp only [y6,y14,yc,y8,hcount,y1m]
  by_cases hN:s.2.2.2.length=(zm s.1 s.1.length).length
  ·rw [yb (show (s.2.2.2.length:Int)=((zm s.1 s.1.length).length:Int) by omega),y5 (by simp)]
   have:=z5w (L:=fun n i=>za1 k n s i (some true)) (b:=s.1.length) (p:=fun j=>decide (chk k s (zm s.1 j).length (z3a s.1 j))) (r:=some false) (e:=some true) ?_ ?_ (n:=k) (by omega)
   ·rw [this]
    have e:((List.range s.1.length).all (fun j=>decide (chk k s (zm s.1 j).length (z3a s.1 j)))=true)↔chk k s 0 (zm s.1 s.1.length):=by
     rw [← zss]
     simp only [y17,y1a,y1d]
    by_cases q:chk k s 0 (zm s.1 s.1.length)
    ·rw [y4 (e.2 q),yb ⟨hN,q⟩]
    ·rw [y5 (fun z=>q (e.1 z)),ya (fun z=>q z.2)]
   ·intro n j hj
    have hlt:(j:Int)<(s.1.length:Int):=by omega
    have hw:=zd (i:=j) (by omega)
    have hg:s.1[j]?=some s.1[j]:=yj hj
    have hm:=ym hg
    have h4:=(h.simp _ hm).len4
    have hbl:=zon hg
    have hnx:(zm s.1 (j+1)).length=(zm s.1 j).length+(z3a s.1 j).length:=by rw [zcu,yl]
    have hmono:=z1ng s.1 (show j+1≤s.1.length by omega)
    have haj:=z93 h j (by omega)
    have hfl:=z92 s.1 s.1[j]
    simp only [za1,hlt,y9,y7]
    have inner:=z5w (L:=fun m i=>zf0 k m s (j:Int) i (fun s_5 k_6=>za1 k n s_5 (z6 (k_6+1)) (some true))) (b:=(z3a s.1 j).length) (p:=z94 k s (zm s.1 j).length (z3a s.1 j)) (r:=some false) (e:=za1 k n s ((j+1:Nat):Int) (some true)) ?_ ?_ (n:=k) (by rw [hbl]; split <;> omega)
    ·refine Eq.trans inner ?_
     have e:=z15w (k:=k) (s:=s) (o:=(zm s.1 j).length) (l:=z3a s.1 j)
     by_cases q:chk k s (zm s.1 j).length (z3a s.1 j)
     ·rw [y4 (e.2 q),y4 (yb q)]
     ·rw [if_neg (fun z=>q (e.1 z)),if_neg (by simpa using q)]
    ·intro m i hi
     have h1:1<(s.1[j]).length:=by
      apply y2m
      intro hn
      rw [hbl,y5 hn] at hi; omega
     rw [y4 h1] at hbl hfl
     have hil:i<(s.1[j]).length:=by omega
     have hil':(i:Int)<((s.1[j]).length:Int):=by omega
     have h1':(1:Int)<((s.1[j]).length:Int):=by omega
     have hw2:=zd (i:=i) (by omega)
     have hml:(zm s.1 j).length+i<s.2.2.2.length:=by omega
     have hgm:s.2.2.2[(zm s.1 j).length+i]?=some s.2.2.2[(zm s.1 j).length+i]:=yj hml
     have hcells:=hs.cells _ (ym hgm)
     have hfi:i<(zf s.1 s.1[j]).length:=by omega
     have hga:=z15v hg hfi
     have hgd:(zf s.1 s.1[j])[i]?=some ((zf s.1 s.1[j]).getD i 0):=by rw [y16,yj hfi]; rfl
     have hF:((zf s.1 s.1[j]).map fun i:Nat=>(i:Int))[i]?=some (((zf s.1 s.1[j]).getD i 0:Nat):Int):=by rw [yu,hgd]; rfl
     have hflt:(zf s.1 s.1[j]).getD i 0<s.1.length:=z15u h hm (ym hgd)
     obtain ⟨s1,_⟩:=z7v hS hj
     obtain ⟨s2,_⟩:=z7v hS hflt
     simp only [zf0,zr8,yg,y7,ye,hg,y6,hil',h1',y9,zsp hk h (show j≤s.1.length by omega) (show i≤4 by omega),hgm,zso hk h hg,yp,hfi,yz,hF,(zsq hk hcells).1,s1,s2,hw2]
     have e:z94 k s (zm s.1 j).length (z3a s.1 j) i=okA k s (j,i,(zf s.1 s.1[j]).getD i 0) s.2.2.2[(zm s.1 j).length+i]:=by unfold z94; rw [hga,hgm]
     rw [e]
     unfold okA
     generalize s.2.2.2[(zm s.1 j).length+i]=mm
     generalize hv:s.2.2.1.getD ((zf s.1 s.1[j]).getD i 0) 0=v
     generalize hu:s.2.2.1.getD j 0=u
     clear hv hu
     cases zah k mm
     ·simp
     ·by_cases q1:mm.1=s.2.1
      ·by_cases q2:mm.2.1=u
       ·by_cases q3:mm.2.2.1=v <;> simp [q1,q2,q3]
       ·simp [q1,q2]
      ·simp [q1]
    ·intro m
     have hstop:¬ (((z3a s.1 j).length:Int)<((s.1[j]).length:Int)∧(1:Int)<((s.1[j]).length:Int)):=by
      rw [hbl]; split <;> omega
     simp only [zf0,yg,y7,ye,hg,y6,hw]
     by_cases q1:((z3a s.1 j).length:Int)<((s.1[j]).length:Int)
     ·have q2:¬ (1:Int)<((s.1[j]).length:Int):=fun z=>hstop ⟨q1,z⟩
      rw [yb q1,y4 rfl,ya q2,y5 (by simp)]
     ·rw [ya q1,y5 (by simp)]
   ·intro n
    simp only [za1,yw,yf,yc,y8]
  ·rw [ya (show ¬ (s.2.2.2.length:Int)=((zm s.1 s.1.length).length:Int) by omega),y4 (by simp),ya (fun z=>hN z.1)]
open Classical in
theorem z1nl {k:Nat} (hk:KK≤k) {s:She} (hs:smallSh s):zn5 k s=some (z1f k s):=by
 have hK:=zg
 unfold zn5 z1f
 obtain ⟨p1,p2,p3⟩:=zsr hk s.2.1
 rw [z1nd hk hs.cx,p2,z1nf hk hs.cx hs.st]
 cases hcx:cxB s.1 with
 | false=>simp
 | true =>
 cases zai k s.2.1 with
 | false=>simp
 | true =>
 cases hst:stB s.1 s.2.2.1 with
 | false=>simp
 | true =>
  have h:=zaf.1 hcx
  have hS:=zsn hst
  have hcl:=h.len
  have hal:=z93 h s.1.length (yr _)
  simp only [y6,y14,yc,y8,z1nh hk h,y1m,yp]
  have:=z5w (L:=fun n i=>zfn k n ((zm s.1 s.1.length).length:Int) i ((zm s.1 s.1.length).map z6c) s (fun q_11 v_12=>some (decide ((List.length q_11:Int)=(List.length v_12.2.2.2:Int))))) (b:=(zm s.1 s.1.length).length) (p:=z94 k s 0 (zm s.1 s.1.length)) (r:=some false) (e:=some (decide ((zm s.1 s.1.length).length=s.2.2.2.length))) ?_ ?_ (n:=k) (by omega)
  ·rw [this]
   have e:=z15w (k:=k) (s:=s) (o:=0) (l:=zm s.1 s.1.length)
   by_cases q:chk k s 0 (zm s.1 s.1.length)
   ·rw [y4 (e.2 q)]
    congr 1
    exact decide_eq_decide.2 ⟨fun z=>⟨z.symm,q⟩,fun z=>z.1.symm⟩
   ·rw [y5 (fun z=>q (e.1 z)),ya (fun z=>q z.2)]
  ·intro n i hi
   have hlt:(i:Int)<((zm s.1 s.1.length).length:Int):=by omega
   have hw:=zd (i:=i) (by omega)
   have hg:(zm s.1 s.1.length)[i]?=some (zm s.1 s.1.length)[i]:=yj hi
   have hF:((zm s.1 s.1.length).map z6c)[i]?=some (z6c (zm s.1 s.1.length)[i]):=by rw [yu,hg]; rfl
   obtain ⟨a1,a2⟩:=z1nj h (yr _) hg
   obtain ⟨s1,_⟩:=z7v hS a1
   obtain ⟨s2,_⟩:=z7v hS a2
   have hch:z94 k s 0 (zm s.1 s.1.length) i=(match s.2.2.2[i]? with | some m=>okA k s (zm s.1 s.1.length)[i] m | none=>false):=by unfold z94; rw [hg,Nat.zero_add]
   rw [hch]
   generalize (zm s.1 s.1.length)[i]=a at hF s1 s2
   simp only [zfn,yp,hlt,hi,y9,y7,yg,ye,yz,hF,y6,hw,z6c]
   by_cases hml:i<s.2.2.2.length
   ·have hgm:s.2.2.2[i]?=some s.2.2.2[i]:=yj hml
    have hcells:=hs.cells _ (ym hgm)
    rw [ya (by omega),y5 (by simp),hgm,s1,s2]
    simp only [y6,zru,(zsq hk hcells).2.1]
    show _=if okA k s a s.2.2.2[i]=true then _ else _
    unfold okA
    generalize s.2.2.2[i]=mm
    generalize s.2.2.1.getD a.1 0=u
    generalize s.2.2.1.getD a.2.2 0=v
    cases zah k mm
    ·simp
    ·by_cases q1:mm.1=s.2.1
     ·by_cases q2:mm.2.1=u
      ·by_cases q3:mm.2.2.1=v <;> simp [q1,q2,q3]
      ·simp [q1,q2]
     ·simp [q1]
   ·rw [yb (by omega),y4 rfl,y2v (by omega)]
    rfl
  ·intro n
   simp only [zfn,yw,yf,yc,y8,yp]
   exact congrArg some (decide_eq_decide.2 (by omega))
def z4n (v:List Int) (n p:Int):Bool:=v.all (fun x=>decide (0≤x∧x≤p-1))&&decide ((v.length:Int)=n)
theorem zst {k:Nat} (hk:KK≤k) {v:List Int} (hv:v.length≤1048576) (n:Int) {p:Int} (hp : -1000000≤p∧p≤1000000):zfo k v n p=some (z4n v n p):=by
 unfold zfo z7m z4n
 simp only [y6,z14t hk hv hp]
 by_cases c:(v.length:Int)=n
 ·rw [yb c,y4 rfl,y4t]
 ·rw [ya c,y5 (by simp),y4x]
theorem z27 {k:Nat} (hk:KK≤k) {s:She} (h:z1f k s=true):CxP s.1∧(2≤s.2.1∧s.2.1≤251)∧StP s.1 s.2.2.1:=by
 unfold z1f at h
 simp only [yh] at h
 exact ⟨zaf.1 h.1,(zsr hk s.2.1).2.2 h.2.1,zsn h.2.2.1⟩
def z28 (f:Nat→Int):Nat→Int
 | 0=>0
 | n+1=>z28 f n+f n
theorem zii {f:Nat→Int} {B:Int} (h:∀ t,0≤f t∧f t≤B):∀ n:Nat,0≤z28 f n∧z28 f n≤(n:Int)*B
 | 0=>by simp [z28]
 | n+1=>by
  have h1:=zii h n
  have h2:=h n
  have e:((n+1:Nat):Int)*B=(n:Int)*B+B:=by rw [Int.natCast_add,Int.add_mul]; simp
  show 0≤z28 f n+f n∧z28 f n+f n≤_
  rw [e]; omega
def z60 (a b:List Int) (K C i j t:Nat):Int:=a.getD (i*K+t) 0*b.getD (t*C+j) 0
def z43 (a b:List Int) (K C:Nat) (p:Int) (i j:Nat):Int:=z28 (z60 a b K C i j) K % p
def z1g (e:Nat→Nat→Int) (C:Nat):Nat→List Int
 | 0=>[]
 | R+1=>z1g e C R++(List.range C).map (e R)
theorem z95 (e:Nat→Nat→Int) (C:Nat):∀ R,(z1g e C R).length=R*C
 | 0=>by simp [z1g]
 | R+1=>by
  show (z1g e C R++(List.range C).map (e R)).length=_
  rw [yl,z95 e C R,yp,y15,y2a]
def zcv (a b:Mat) (R K C:Nat):Mat:=(a.1,(R:Int),(C:Int),z1g (z43 a.2.2.2 b.2.2.2 K C a.1) C R)
theorem zoo {R C i j:Nat} (hi:i<R) (hj:j<C):i*C+j<R*C:=by
 have:(i+1)*C≤R*C:=y1z _ hi
 rw [y2a] at this
 omega
theorem zij {m:Mat} {R C:Nat} (h:MatP m R C) (x:Nat):0≤m.2.2.2.getD x 0∧m.2.2.2.getD x 0≤250:=by
 rw [y16]
 cases hx:m.2.2.2[x]? with
 | none=>simp
 | some y=>exact h.cells y (ym hx)
theorem zg9 {m:Mat} {R C:Nat} (h:MatP m R C) {i j:Nat} (hi:i<R) (hj:j<C):m.2.2.2[i*C+j]?=some (m.2.2.2.getD (i*C+j) 0):=by
 have hl:i*C+j<m.2.2.2.length:=by rw [h.len]; exact zoo hi hj
 rw [y16,yj hl]; rfl
theorem zop {a b:Mat} {R K C:Nat} (ha:MatP a R K) (hb:MatP b K C) (i j t:Nat):0≤z60 a.2.2.2 b.2.2.2 K C i j t∧z60 a.2.2.2 b.2.2.2 K C i j t≤62500:=by
 have h1:=zij ha (i*K+t)
 have h2:=zij hb (t*C+j)
 unfold z60
 exact ⟨y3j h1.1 h2.1,by have:=y4j h1.2 h2.2 h2.1 (by omega); omega⟩
theorem z6d {i C:Nat} (h:i≤32) (hC:C≤32):z6 ((i:Int)*(C:Int))=((i*C:Nat):Int):=by
 have:i*C≤32*32:=y1p h hC
 rw [← y3q,ze (by omega) (by omega)]
theorem z1nm (A:List Int) (m:Nat) (v:Int):(A++List.replicate (m+1) 0).set A.length v=(A++[v])++List.replicate m 0:=by
 rw [List.replicate_succ,y64 _ _ (yr _),y42,List.set_cons_zero,y11]; rfl
theorem z15x {k:Nat} (hk:KK≤k) {a b:Mat} {R K C:Nat} (ha:MatP a R K) (hb:MatP b K C):zhs k a b=some (zcv a b R K C):=by
 have hK:=zg
 have hL:=z1q
 have hR:=ha.r32
 have hKK:=ha.c32
 have hC:=hb.c32
 have hp:=ha.prime
 have hRC:R*C≤32*32:=y1p hR hC
 unfold zhs zf1
 rw [ha.rows,hb.cols,z6d hR hC,y4 ⟨by omega,by omega,by omega⟩]
 simp only [y6,ye]
 have sum:∀ (i j:Nat),i<R→j<C→∀ (q6 q7:List Int) (u1 u2 u3 u4 u5 u6:Int) (E:Mat→Mat→Int→Int→Int→List Int→List Int→Int→Int→Int→Int→Int→Int→Option Mat),zbq k k a b (i:Int) (j:Int) 0 0 q6 q7 u1 u2 u3 u4 u5 u6 E=E a b (i:Int) (j:Int) (z28 (z60 a.2.2.2 b.2.2.2 K C i j) K) q6 q7 u1 u2 u3 u4 u5 u6:=by
  intro i j hi hj q6 q7 u1 u2 u3 u4 u5 u6 E
  refine z26 (α:=Nat) (A:=Int) (L:=fun n t z=>zbq k n a b (i:Int) (j:Int) z t q6 q7 u1 u2 u3 u4 u5 u6 E) (I:=fun pre z=>z=z28 (z60 a.2.2.2 b.2.2.2 K C i j) pre.length) (G:=fun _ _=>E a b (i:Int) (j:Int) (z28 (z60 a.2.2.2 b.2.2.2 K C i j) K) q6 q7 u1 u2 u3 u4 u5 u6) (List.range K) ?_ ?_ k (by simp; omega) 0 rfl |> fun h=>h
  ·intro n pre x post z _ hz ih _ hlt
   rw [y15] at hlt
   have ht:pre.length<K:=by omega
   have hw:=zd (i:=pre.length) (by omega)
   have hik:i*K≤32*32:=y1p (by omega) (by omega)
   have htc:pre.length*C≤32*32:=y1p (by omega) (by omega)
   have w1:z6 (z6 ((i:Int)*(K:Int))+(pre.length:Int))=((i*K+pre.length:Nat):Int):=by rw [z6d (by omega) hKK,ze (by omega) (by omega)]; omega
   have w2:z6 (z6 ((pre.length:Int)*(C:Int))+(j:Int))=((pre.length*C+j:Nat):Int):=by rw [z6d (by omega) hC,ze (by omega) (by omega)]; omega
   have tb:=zop ha hb i j pre.length
   have sb:=zii (fun t=>zop ha hb i j t) pre.length
   have w3:z6 (a.2.2.2.getD (i*K+pre.length) 0*b.2.2.2.getD (pre.length*C+j) 0)=z60 a.2.2.2 b.2.2.2 K C i j pre.length:=by
    show z6 (z60 a.2.2.2 b.2.2.2 K C i j pre.length)=_
    exact ze (by omega) (by omega)
   have w4:z6 (z+z60 a.2.2.2 b.2.2.2 K C i j pre.length)=z+z60 a.2.2.2 b.2.2.2 K C i j pre.length:=by rw [hz]; exact ze (by omega) (by omega)
   simp only [zbq,ha.cols,hb.cols,hlt,y9,y7,w1,w2,yg,ye,zg9 ha hi ht,zg9 hb ht hj,y6,w3,w4,hw]
   exact ih _ (by rw [hz,yl,yy]; rfl)
  ·intro n z hz
   subst hz
   simp only [zbq,ha.cols,y15,yw,yf,yc,y8]
 have row:∀ (i:Nat),i<R→∀ (q5:List Int) (u1 u2 u3 u4 u5 u6:Int) (E:Mat→Mat→Int→List Int→List Int→Int→Int→Int→Int→Int→Int→Option Mat),zbr k k a b (i:Int) 0 q5 (z1g (z43 a.2.2.2 b.2.2.2 K C a.1) C i++List.replicate (R*C-i*C) 0) u1 u2 u3 u4 u5 u6 E=E a b (i:Int) q5 (z1g (z43 a.2.2.2 b.2.2.2 K C a.1) C (i+1)++List.replicate (R*C-(i+1)*C) 0) u1 u2 u3 u4 u5 u6:=by
  intro i hi q5 u1 u2 u3 u4 u5 u6 E
  have hb1:(i+1)*C≤R*C:=y1z _ hi
  have hs:(i+1)*C=i*C+C:=y2a i C
  refine z26 (α:=Nat) (A:=List Int) (L:=fun n j q=>zbr k n a b (i:Int) j q5 q u1 u2 u3 u4 u5 u6 E) (I:=fun pre q=>q=(z1g (z43 a.2.2.2 b.2.2.2 K C a.1) C i++(List.range pre.length).map (z43 a.2.2.2 b.2.2.2 K C a.1 i))++List.replicate (R*C-(i*C+pre.length)) 0) (G:=fun _ _=>E a b (i:Int) q5 (z1g (z43 a.2.2.2 b.2.2.2 K C a.1) C (i+1)++List.replicate (R*C-(i+1)*C) 0) u1 u2 u3 u4 u5 u6) (List.range C) ?_ ?_ k (by simp; omega) _ (by simp) |> fun h=>h
  ·intro n pre x post q _ hq ih _ hlt
   rw [y15] at hlt
   have hj:pre.length<C:=by omega
   have hw:=zd (i:=pre.length) (by omega)
   have hic:i*C≤32*32:=y1p (by omega) (by omega)
   have w1:z6 (z6 ((i:Int)*(C:Int))+(pre.length:Int))=((i*C+pre.length:Nat):Int):=by rw [z6d (by omega) hC,ze (by omega) (by omega)]; omega
   have hal:(z1g (z43 a.2.2.2 b.2.2.2 K C a.1) C i++(List.range pre.length).map (z43 a.2.2.2 b.2.2.2 K C a.1 i)).length=i*C+pre.length:=by rw [yl,z95,yp,y15]
   have hql:q.length=R*C:=by rw [hq,yl,hal,y29]; omega
   have hlq:i*C+pre.length<q.length:=by rw [hql]; exact zoo hi hj
   have sb:=zii (fun t=>zop ha hb i pre.length t) K
   have hm:Int.tmod (z28 (z60 a.2.2.2 b.2.2.2 K C i pre.length) K) a.1=z43 a.2.2.2 b.2.2.2 K C a.1 i pre.length:=y34 sb.1
   simp only [zbr,hb.cols,hlt,y9,y7,sum i pre.length hi hj,show ¬ a.1=0 by omega,y8,w1,yg,ye,hlq,yz,yj hlq,y6,hm,hw]
   refine ih _ ?_
   rw [hq,show R*C-(i*C+pre.length)=(R*C-(i*C+(pre.length+1)))+1 by omega,← hal,z1nm,yl,yy,y35,y25,y11 (z1g _ C i)]
   rfl
  ·intro n q hq
   subst hq
   simp only [zbr,hb.cols,y15,yw,yf,yc,y8]
   rw [hs]
   rfl
 have:=z26 (α:=Nat) (A:=List Int) (L:=fun n i q=>zf2 k n a b i [] q 0 0 0 a.1 (R:Int) (C:Int) (fun q_15 q_16 v_4a_17 v_4ba_18 v_4bba_19 v_5a_20 v_5ba_21 v_5bba_22=>some (v_5a_20,(v_5ba_21,(v_5bba_22,q_16))))) (I:=fun pre q=>q=z1g (z43 a.2.2.2 b.2.2.2 K C a.1) C pre.length++List.replicate (R*C-pre.length*C) 0) (G:=fun _ _=>some (zcv a b R K C)) (List.range R) ?_ ?_ k (by simp; omega) (List.replicate (R*C) 0) (by simp [z1g])
 ·exact this
 ·intro n pre x post q _ hq ih _ hlt
  rw [y15] at hlt
  have hi:pre.length<R:=by omega
  have hw:=zd (i:=pre.length) (by omega)
  subst hq
  simp only [zf2,ha.rows,hlt,y9,y7,row pre.length hi,hw]
  exact ih _ (by rw [yl,yy])
 ·intro n q hq
  subst hq
  simp only [zf2,ha.rows,y15,yw,yf,yc,y8,y42,List.replicate_zero,y1t]
  rfl
theorem z1nn {k:Nat} (hk:KK≤k) {m:Mat} {R C:Nat} (h:MatP m R C):znc k m=some (m.1,(C:Int),(R:Int),z1g (fun j i=>m.2.2.2.getD (i*C+j) 0) R C):=by
 have hK:=zg
 have hL:=z1q
 have hR:=h.r32
 have hC:=h.c32
 have hCR:C*R≤32*32:=y1p hC hR
 unfold znc zry
 rw [h.rows,h.cols]
 have row:∀ (j:Nat),j<C→∀ (x16 x17:Int) (q3:List Int) (u1 u2 u3 u4 u5 u6:Int) (E:Int→Mat→Int→Int→List Int→List Int→Int→Int→Int→Int→Int→Int→Option Mat),zca k k (R:Int) m (j:Int) x16 x17 (R:Int) 0 q3 (z1g (fun j i=>m.2.2.2.getD (i*C+j) 0) R j) u1 u2 u3 u4 u5 u6 E=E (R:Int) m x16 x17 q3 (z1g (fun j i=>m.2.2.2.getD (i*C+j) 0) R (j+1)) u1 u2 u3 u4 u5 u6:=by
  intro j hj x16 x17 q3 u1 u2 u3 u4 u5 u6 E
  refine z26 (α:=Nat) (A:=List Int) (L:=fun n i q=>zca k n (R:Int) m (j:Int) x16 x17 (R:Int) i q3 q u1 u2 u3 u4 u5 u6 E) (I:=fun pre q=>q=z1g (fun j i=>m.2.2.2.getD (i*C+j) 0) R j++(List.range pre.length).map (fun i=>m.2.2.2.getD (i*C+j) 0)) (G:=fun _ _=>E (R:Int) m x16 x17 q3 (z1g (fun j i=>m.2.2.2.getD (i*C+j) 0) R (j+1)) u1 u2 u3 u4 u5 u6) (List.range R) ?_ ?_ k (by simp; omega) _ (by simp) |> fun h=>h
  ·intro n pre x post q _ hq ih _ hlt
   rw [y15] at hlt
   have hi:pre.length<R:=by omega
   have hw:=zd (i:=pre.length) (by omega)
   have hic:pre.length*C≤32*32:=y1p (by omega) (by omega)
   have w1:z6 (z6 ((pre.length:Int)*(C:Int))+(j:Int))=((pre.length*C+j:Nat):Int):=by rw [z6d (by omega) hC,ze (by omega) (by omega)]; omega
   have hjr:j*R≤32*32:=y1p (by omega) (by omega)
   have b:(q.length+1)*8≤LIM:=by rw [hq,yl,z95,yp,y15]; omega
   simp only [zca,zrx,zi4,h.cols,hlt,y9,y7,w1,yg,ye,zg9 h hi hj,y6,yy,b,hw]
   exact ih _ (by rw [hq,yl,yy,y35,y25,← y11]; rfl)
  ·intro n q hq
   subst hq
   simp only [zca,y15,yw,yf,yc,y8]
   rfl
 have:=z26 (α:=Nat) (A:=List Int) (L:=fun n i q=>zcb k n (R:Int) m (C:Int) i [] q 0 0 0 m.1 (C:Int) (R:Int) (fun q_15 q_16 v_8a_17 v_8ba_18 v_8bba_19 v_9a_20 v_9ba_21 v_9bba_22=>some (v_9a_20,(v_9ba_21,(v_9bba_22,q_16))))) (I:=fun pre q=>q=z1g (fun j i=>m.2.2.2.getD (i*C+j) 0) R pre.length) (G:=fun _ _=>some ((m.1,(C:Int),(R:Int),z1g (fun j i=>m.2.2.2.getD (i*C+j) 0) R C):Mat)) (List.range C) ?_ ?_ k (by simp; omega) [] rfl
 ·rw [show zcb k k (R:Int) m (C:Int) 0 [] [] 0 0 0 m.1 (C:Int) (R:Int) (fun q_15 q_16 v_8a_17 v_8ba_18 v_8bba_19 v_9a_20 v_9ba_21 v_9bba_22=>some (v_9a_20,(v_9ba_21,(v_9bba_22,q_16))))=_ from this]
  rfl
 ·intro n pre x post q _ hq ih _ hlt
  rw [y15] at hlt
  have hi:pre.length<C:=by omega
  have hw:=zd (i:=pre.length) (by omega)
  subst hq
  simp only [zcb,hlt,y9,y7,row pre.length hi,hw]
  exact ih _ (by rw [yl,yy])
 ·intro n q hq
  subst hq
  simp only [zcb,y15,yw,yf,yc,y8]
theorem z15y {e:Nat→Nat→Int} {C:Nat}:∀ {R i j:Nat},i<R→j<C→(z1g e C R)[i*C+j]?=some (e i j)
 | R+1,i,j,hi,hj=>by
  show (z1g e C R++(List.range C).map (e R))[i*C+j]?=_
  by_cases c:i<R
  ·have:i*C+j<R*C:=zoo c hj
   rw [y1w (by rw [z95]; exact this)]
   exact z15y c hj
  ·have hiR:i=R:=by omega
   subst hiR
   rw [y1r (by rw [z95]; omega),z95,y3i,yu,y26 hj]
   rfl
theorem z1no {m:Mat} {R C:Nat} (h:MatP m R C):MatP (m.1,(C:Int),(R:Int),z1g (fun j i=>m.2.2.2.getD (i*C+j) 0) R C) C R where
 rows:=rfl
 cols:=rfl
 r32:=h.c32
 c32:=h.r32
 len:=z95 ..
 prime:=h.prime
 cells:=by
  have:∀ n,∀ x∈z1g (fun j i=>m.2.2.2.getD (i*C+j) 0) R n,0≤x∧x≤250:=by
   intro n
   induction n with
   | zero=>simp [z1g]
   | succ n ih =>
    intro x hx
    have hx:x∈z1g (fun j i=>m.2.2.2.getD (i*C+j) 0) R n++(List.range R).map (fun i=>m.2.2.2.getD (i*C+n) 0):=hx
    rcases yd.1 hx with hx | hx
    ·exact ih x hx
    ·obtain ⟨i,_,rfl⟩:=y1f.1 hx
     exact zij h _
  exact this C
 lt:=by
  have hp:=h.prime
  have:∀ n,∀ x∈z1g (fun j i=>m.2.2.2.getD (i*C+j) 0) R n,x<m.1:=by
   intro n
   induction n with
   | zero=>simp [z1g]
   | succ n ih =>
    intro x hx
    have hx:x∈z1g (fun j i=>m.2.2.2.getD (i*C+j) 0) R n++(List.range R).map (fun i=>m.2.2.2.getD (i*C+n) 0):=hx
    rcases yd.1 hx with hx | hx
    ·exact ih x hx
    ·obtain ⟨i,_,rfl⟩:=y1f.1 hx
     rw [y16]
     cases hy:m.2.2.2[i*C+n]? with
     | none=>simp; omega
     | some y=>exact h.lt y (ym hy)
  exact this C
theorem z15z {k:Nat} (hk:KK≤k) {a b:List Int} {K:Nat} (ha:a.length=K) (hb:b.length=K) (hK32:K≤32) {p:Int} (hp:2≤p∧p≤251) {f:Nat→Int} (hf:∀ t,0≤f t∧f t≤62500) (hab:∀ t x y,a[t]?=some x→b[t]?=some y→x*y=f t):zi6 k a b p=some (z28 f K % p):=by
 have hK:=zg
 unfold zi6
 have:=z26 (A:=Int) (L:=fun n i z=>zfq k n a b p z (a.length:Int) i (fun sum_3=>some sum_3)) (I:=fun pre z=>z=z28 f pre.length % p) (G:=fun _ _=>some (z28 f K % p)) a ?_ ?_ k (by omega) 0 (by simp [z28])
 ·exact this
 ·intro n pre x post z hx hz ih hg hlt
  have hw:=zd (i:=pre.length) (by omega)
  have hlb:pre.length<b.length:=by omega
  have hgb:b[pre.length]?=some b[pre.length]:=yj hlb
  have hxy:=hab pre.length x _ hg hgb
  have hft:=hf pre.length
  have hz0:0≤z∧z<p:=by rw [hz]; exact ⟨y3r _ (by omega),y3s _ (by omega)⟩
  have w1:z6 (f pre.length)=f pre.length:=ze (by omega) (by omega)
  have w2:z6 (z+f pre.length)=z+f pre.length:=ze (by omega) (by omega)
  have hm:Int.tmod (z+f pre.length) p=z28 f (pre.length+1) % p:=by
   rw [y34 (by omega),hz]
   show (z28 f pre.length % p+f pre.length) % p=(z28 f pre.length+f pre.length) % p
   rw [Int.emod_add_emod]
  simp only [zfq,hlt,y9,y7,yg,ye,hg,hgb,y6,hxy,show ¬ p=0 by omega,y8,w1,w2,hm,hw]
  exact ih _ (by rw [yl,yy])
 ·intro n z hz
  subst hz
  simp only [zfq,yw,yf,yc,y8,ha]
theorem zsu {m:Mat} {R C:Nat} (h:MatP m R C) (r t:Nat) {x:Int} (hx:(z4k m.2.2.2 C r)[t]?=some x):x=m.2.2.2.getD (r*C+t) 0:=by
 have ht:t<C:=by
  have:=(yo.1 hx).1
  unfold z4k at this
  rw [y1c] at this
  omega
 rw [z14u ht] at hx
 rw [y16,hx]; rfl
theorem z1np {k:Nat} (hk:KK≤k) {a b:Mat} {R K C:Nat} (ha:MatP a R K) (hb:MatP b K C):zfr k a b=some (zcv a b R K C):=by
 have hK:=zg
 have hL:=z1q
 have hR:=ha.r32
 have hKK:=ha.c32
 have hC:=hb.c32
 have hRC:R*C≤32*32:=y1p hR hC
 have hT:=z1no hb
 unfold zfr zs0
 rw [z1nn hk hb]
 simp only [y6]
 rw [z14v hk hT]
 simp only [y6]
 unfold zs1
 rw [ha.rows,hb.cols]
 generalize hcols:(List.range C).map (z4k (z1g (fun j i=>b.2.2.2.getD (i*C+j) 0) K C) K)=cols
 have hcell:∀ i j:Nat,i<R→j<C→zne k (i:Int) (j:Int) a cols=some (z43 a.2.2.2 b.2.2.2 K C a.1 i j):=by
  intro i j hi hj
  have hrow:z7o a (i:Int)=some (z4k a.2.2.2 K i):=by
   have h1:(i+1)*K≤R*K:=y1z _ hi
   have h2:R*K≤32*32:=y1p hR hKK
   have h3:(i+1)*K=i*K+K:=y2a _ _
   have hw:=zd (i:=i) (by omega)
   unfold z7o
   rw [ha.cols,z6d (by omega) hKK,hw,z6d (i:=i+1) (by omega) hKK,y4 ⟨by omega,by omega,by rw [ha.len]; omega⟩,ye,ye,show (i+1)*K-i*K=K by omega]
   rfl
  have hcol:cols[j]?=some (z4k (z1g (fun j i=>b.2.2.2.getD (i*C+j) 0) K C) K j):=by rw [← hcols,yu,y26 hj]; rfl
  unfold zne
  rw [hrow]
  simp only [y6,yg,y7,ye,hcol]
  rw [z15z hk (K:=K) (zg6 ha.len hi) (zg6 hT.len hj) hKK ha.prime (f:=z60 a.2.2.2 b.2.2.2 K C i j) (fun t=>zop ha hb i j t) (fun t x y hx hy=>by
   have h1:=zsu ha i t hx
   have h2:=zsu hT j t hy
   have ht:t<K:=by
    have:=(yo.1 hy).1
    rw [zg6 hT.len hj] at this
    exact this
   have h3:(z1g (fun j i=>b.2.2.2.getD (i*C+j) 0) K C).getD (j*K+t) 0=b.2.2.2.getD (t*C+j) 0:=by rw [y16,z15y hj ht]; rfl
   rw [h1,h2]
   show _*(z1g (fun j i=>b.2.2.2.getD (i*C+j) 0) K C).getD (j*K+t) 0=_
   rw [h3]
   rfl)]
  rfl
 have row:∀ (i:Nat),i<R→∀ (x16 x17:Int) (q3:List Int) (u1 u2 u3 u4 u5 u6:Int) (E:Int→(Mat×List (List Int))→Int→Int→List Int→List Int→Int→Int→Int→Int→Int→Int→Option Mat),zcc k k (C:Int) (a,cols) (i:Int) x16 x17 (C:Int) 0 q3 (z1g (z43 a.2.2.2 b.2.2.2 K C a.1) C i) u1 u2 u3 u4 u5 u6 E=E (C:Int) (a,cols) x16 x17 q3 (z1g (z43 a.2.2.2 b.2.2.2 K C a.1) C (i+1)) u1 u2 u3 u4 u5 u6:=by
  intro i hi x16 x17 q3 u1 u2 u3 u4 u5 u6 E
  refine z26 (α:=Nat) (A:=List Int) (L:=fun n j q=>zcc k n (C:Int) (a,cols) (i:Int) x16 x17 (C:Int) j q3 q u1 u2 u3 u4 u5 u6 E) (I:=fun pre q=>q=z1g (z43 a.2.2.2 b.2.2.2 K C a.1) C i++(List.range pre.length).map (z43 a.2.2.2 b.2.2.2 K C a.1 i)) (G:=fun _ _=>E (C:Int) (a,cols) x16 x17 q3 (z1g (z43 a.2.2.2 b.2.2.2 K C a.1) C (i+1)) u1 u2 u3 u4 u5 u6) (List.range C) ?_ ?_ k (by simp; omega) _ (by simp) |> fun h=>h
  ·intro n pre x post q _ hq ih _ hlt
   rw [y15] at hlt
   have hj:pre.length<C:=by omega
   have hw:=zd (i:=pre.length) (by omega)
   have hic:i*C≤32*32:=y1p (by omega) (by omega)
   have b1:(q.length+1)*8≤LIM:=by rw [hq,yl,z95,yp,y15]; omega
   simp only [zcc,hlt,y9,y7,hcell i pre.length hi hj,y6,yy,b1,hw]
   exact ih _ (by rw [hq,yl,yy,y35,y25,← y11]; rfl)
  ·intro n q hq
   subst hq
   simp only [zcc,y15,yw,yf,yc,y8]
   rfl
 have:=z26 (α:=Nat) (A:=List Int) (L:=fun n i q=>zcd k n (C:Int) (a,cols) (R:Int) i [] q 0 0 0 a.1 (R:Int) (C:Int) (fun q_15 q_16 v_8a_17 v_8ba_18 v_8bba_19 v_9a_20 v_9ba_21 v_9bba_22=>some (v_9a_20,(v_9ba_21,(v_9bba_22,q_16))))) (I:=fun pre q=>q=z1g (z43 a.2.2.2 b.2.2.2 K C a.1) C pre.length) (G:=fun _ _=>some (zcv a b R K C)) (List.range R) ?_ ?_ k (by simp; omega) [] rfl
 ·rw [show zcd k k (C:Int) (a,cols) (R:Int) 0 [] [] 0 0 0 a.1 (R:Int) (C:Int) (fun q_15 q_16 v_8a_17 v_8ba_18 v_8bba_19 v_9a_20 v_9ba_21 v_9bba_22=>some (v_9a_20,(v_9ba_21,(v_9bba_22,q_16))))=_ from this]
  rfl
 ·intro n pre x post q _ hq ih _ hlt
  rw [y15] at hlt
  have hi:pre.length<R:=by omega
  have hw:=zd (i:=pre.length) (by omega)
  subst hq
  simp only [zcd,hlt,y9,y7,row pre.length hi,hw]
  exact ih _ (by rw [yl,yy])
 ·intro n q hq
  subst hq
  simp only [zcd,y15,yw,yf,yc,y8]
  rfl
theorem zaj {R:Type} {L:Nat→Int→R} {b:Nat} {p:Nat→Bool} {e:R} {Q:R→Prop} (h1:∀ n (i:Nat),i<b→p i=true→L (n+1) (i:Int)=L n ((i+1:Nat):Int)) (h2:∀ n (i:Nat),i<b→p i=false→Q (L (n+1) (i:Int))) (h3:∀ n,L (n+1) (b:Int)=e) {n:Nat} (hn:b<n) :
  ((List.range b).all p=true→L n 0=e)∧((List.range b).all p=false→Q (L n 0)):=by
 have main:∀ (d i n:Nat),i+d=b→d<n→((∀ x,i≤x→x<b→p x=true)→L n (i:Int)=e)∧((∃ x,i≤x∧x<b∧p x=false)→Q (L n (i:Int))):=by
  intro d
  induction d with
  | zero =>
   intro i n hi hn
   obtain ⟨n,rfl⟩:∃ m,n=m+1:=⟨n-1,by omega⟩
   have:i=b:=by omega
   subst this
   exact ⟨fun _=>h3 n,fun ⟨x,h1,h2,_⟩=>by omega⟩
  | succ d ih =>
   intro i n hi hn
   obtain ⟨n,rfl⟩:∃ m,n=m+1:=⟨n-1,by omega⟩
   have hib:i<b:=by omega
   obtain ⟨g1,g2⟩:=ih (i+1) n (by omega) (by omega)
   cases hp:p i with
   | true =>
    rw [h1 n i hib hp]
    refine ⟨fun h=>g1 fun x hx hxb=>h x (by omega) hxb,fun ⟨x,hx,hxb,hpx⟩=>g2 ⟨x,?_,hxb,hpx⟩⟩
    rcases y22 i x with h | h
    ·exact h
    ·have:x=i:=by omega
     subst this; rw [hp] at hpx; cases hpx
   | false=>exact ⟨fun h=>(by have:=h i (yr _) hib; rw [hp] at this; cases this),fun _=>h2 n i hib hp⟩
 obtain ⟨g1,g2⟩:=main b 0 n (by omega) hn
 refine ⟨fun h=>g1 fun x _ hx=>y17.1 h x (y1a.2 hx),fun h=>g2 ?_⟩
 obtain ⟨x,hx,hp⟩:=List.all_eq_false.1 h
 exact ⟨x,by omega,List.mem_range.1 hx,by simpa using hp⟩
def stN (s:She) (x:Nat):Nat:=(s.2.2.1.getD x 0).toNat
def mpS (s:She) (j i:Nat):Mat:=s.2.2.2.getD ((zm s.1 j).length+i) (0,0,0,[])
theorem z1nq {k:Nat} {s:She} (h:z1f k s=true):s.2.2.2.length=(zm s.1 s.1.length).length∧chk k s 0 (zm s.1 s.1.length):=by
 unfold z1f at h
 simp only [yh,y1d] at h
 exact h.2.2.2
theorem zik {k:Nat} (hk:KK≤k) {s:She} (hs:smallSh s) (h:z1f k s=true) {j:Nat} {t:List Int} (hj:s.1[j]?=some t) {i:Nat} (hi:i<(zf s.1 t).length) :
  s.2.2.2[(zm s.1 j).length+i]?=some (mpS s j i)∧MatP (mpS s j i) (stN s j) (stN s ((zf s.1 t).getD i 0)):=by
 obtain ⟨hC,hp,hS⟩:=z27 hk h
 obtain ⟨_,hch⟩:=z1nq h
 have hjl:=(yo.1 hj).1
 have hb:=zss (k:=k) (s:=s) s.1.length |>.2 hch j hjl
 obtain ⟨m,h1,h2⟩:=hb i _ (z15v hj hi)
 have e:mpS s j i=m:=by unfold mpS; rw [List.getD_eq_getElem?_getD,h1]; rfl
 rw [e]
 refine ⟨h1,?_⟩
 unfold okA at h2
 simp only [yh,y1d] at h2
 obtain ⟨a1,a2,a3,a4⟩:=h2
 obtain ⟨R,C,hm⟩:=(zsq hk (hs.cells m (ym h1))).2.2 a1
 have e1:R=stN s j:=by unfold stN; have:=hm.rows; omega
 have e2:C=stN s ((zf s.1 t).getD i 0):=by unfold stN; have:=hm.cols; omega
 rw [← e1,← e2]
 exact hm
theorem zoq {k:Nat} (hk:KK≤k) {s:She} (hs:smallSh s) (h:z1f k s=true) {j:Nat} {t:List Int} (hj:s.1[j]?=some t) {i:Nat} (hi:i<(zf s.1 t).length):za2 k s (j:Int) (i:Int)=some (mpS s j i):=by
 obtain ⟨hC,_,_⟩:=z27 hk h
 have hjl:=(yo.1 hj).1
 have h4:=(hC.simp t (ym hj)).len4
 have hfl:=z92 s.1 t
 have hi4:i≤4:=by rw [hfl] at hi; split at hi <;> omega
 unfold za2
 rw [zsp hk hC (by omega) hi4]
 simp only [y6,yg,y7,ye,(zik hk hs h hj hi).1]
theorem z1nr {k:Nat} (hk:KK≤k) {s:She} (h:CxP s.1) {j:Nat} (hj:j≤s.1.length):zn9 k s (j:Int)=some ((zm s.1 j).length:Int):=by
 have hK:=zg
 have hcl:=h.len
 unfold zn9
 rw [y4 ⟨by omega,by omega,by omega⟩,ye]
 have htl:(s.1.take j).length=j:=by rw [y1c]; omega
 refine z26 (A:=Int) (L:=fun n i z=>za9 k n z (s.1.take j) ((s.1.take j).length:Int) i (fun n_3=>some n_3)) (I:=fun pre z=>z=((zm s.1 pre.length).length:Int)) (G:=fun _ _=>some ((zm s.1 j).length:Int)) (s.1.take j) ?_ ?_ k (by omega) 0 (by simp [zm])
 ·intro n pre x post z hx hz ih hg hlt
  have hpl:pre.length<j:=by omega
  have hw:=zd (i:=pre.length) (by omega)
  have hgc:s.1[pre.length]?=some x:=by rw [y1n hpl] at hg; exact hg
  have h4:=(h.simp _ (ym hgc)).len4
  have hal:=z93 h pre.length (by omega)
  have hnx:(zm s.1 (pre.length+1)).length=(zm s.1 pre.length).length+(if 1<x.length then x.length else 0):=by rw [zcu,yl,zon hgc]
  simp only [za9,hlt,y9,y7,yg,ye,hg,y6,hw]
  by_cases c1:1<x.length
  ·have hwz:z6 (z+(x.length:Int))=z+(x.length:Int):=ze (by omega) (by omega)
   rw [yb (by omega),y4 rfl]
   show za9 k n (z6 (z+(x.length:Int))) _ _ _ _=_
   rw [hwz]
   refine ih _ ?_
   rw [y4 c1] at hnx
   rw [yl,yy,hnx,hz]; rfl
  ·rw [ya (by omega),y5 (by simp)]
   refine ih _ ?_
   rw [y5 c1] at hnx
   rw [yl,yy,hnx,hz]; rfl
 ·intro n z hz
  rw [htl] at hz
  simp only [za9,yw,yf,yc,y8,hz]
theorem zsv {k:Nat} (hk:KK≤k) {s:She} (hs:smallSh s) (h:z1f k s=true) {j:Nat} {t:List Int} (hj:s.1[j]?=some t) {i:Nat} (hi:i<(zf s.1 t).length):z7n k s (j:Int) (i:Int)=some (mpS s j i):=by
 obtain ⟨hC,_,_⟩:=z27 hk h
 have hjl:=(yo.1 hj).1
 have hcl:=hC.len
 have hal:=z93 hC j (by omega)
 have h4:=(hC.simp t (ym hj)).len4
 have hfl:=z92 s.1 t
 have hi4:i≤4:=by rw [hfl] at hi; split at hi <;> omega
 have hw:z6 (((zm s.1 j).length:Int)+(i:Int))=(((zm s.1 j).length+i:Nat):Int):=by rw [ze (by omega) (by omega)]; omega
 unfold z7n
 rw [z1nr hk hC (by omega)]
 simp only [y6,hw,yg,y7,ye,(zik hk hs h hj hi).1]
theorem zil {s:She} (hC:CxP s.1) {j:Nat} {t:List Int} (hj:s.1[j]?=some t) (h3:2<t.length) {i:Nat} (hi:i<t.length) :
  (zf s.1 t).length=t.length∧(zf s.1 t)[i]?=some ((zf s.1 t).getD i 0)∧∃ f,s.1[(zf s.1 t).getD i 0]?=some f∧f.length=t.length-1∧(zf s.1 f).length=t.length-1:=by
 have hm:=ym hj
 have hfl:=z92 s.1 t
 rw [y4 (by omega)] at hfl
 have hF:(zf s.1 t).getD i 0=z2p s.1 (z11 t i):=by
  rw [y16]
  unfold zf z23
  rw [y4 (by omega),yu,yu,y26 hi]; rfl
 have hmem:=hC.face t hm (by omega) i hi
 have hdl:=z90 hi
 have hfl2:=z92 s.1 (z11 t i)
 rw [y4 (by omega)] at hfl2
 refine ⟨hfl,?_,z11 t i,by rw [hF]; exact zg7 hmem,hdl,by omega⟩
 rw [y16,yj (by omega)]; rfl
def sqS (s:She) (j:Nat) (t:List Int) (i i2:Nat):Mat :=
 zcv (mpS s j i) (mpS s ((zf s.1 t).getD i 0) (if i<i2 then i2-1 else i2)) (stN s j) (stN s ((zf s.1 t).getD i 0)) (stN s ((zf s.1 (s.1.getD ((zf s.1 t).getD i 0) [])).getD (if i<i2 then i2-1 else i2) 0))
theorem zsw {k:Nat} (hk:KK≤k) {s:She} (hs:smallSh s) (h:z1f k s=true) {j:Nat} {t:List Int} (hj:s.1[j]?=some t) (h3:2<t.length) {i i2:Nat} (hi:i<t.length) (hi2:i2<t.length) (hne:i≠i2) :
  ∃ R K C,MatP (mpS s j i) R K∧MatP (mpS s ((zf s.1 t).getD i 0) (if i<i2 then i2-1 else i2)) K C∧zcv (mpS s j i) (mpS s ((zf s.1 t).getD i 0) (if i<i2 then i2-1 else i2)) R K C=sqS s j t i i2 ∧
   (∃ f,s.1[(zf s.1 t).getD i 0]?=some f∧(if i<i2 then i2-1 else i2)<(zf s.1 f).length)∧i<(zf s.1 t).length:=by
 obtain ⟨hC,_,_⟩:=z27 hk h
 obtain ⟨f1,f2,f,f3,f4,f5⟩:=zil hC hj h3 hi
 have hx:(if i<i2 then i2-1 else i2)<(zf s.1 f).length:=by rw [f5]; split <;> omega
 have m1:=(zik hk hs h hj (i:=i) (by omega)).2
 have m2:=(zik hk hs h f3 hx).2
 have hgd:s.1.getD ((zf s.1 t).getD i 0) []=f:=by rw [y16,f3]; rfl
 refine ⟨_,_,_,m1,m2,?_,⟨f,f3,hx⟩,by omega⟩
 unfold sqS
 rw [hgd]
theorem zak {k:Nat} (hk:KK≤k) {s:She} (hs:smallSh s) (h:z1f k s=true) {j:Nat} {t:List Int} (hj:s.1[j]?=some t) (h3:2<t.length) {i i2:Nat} (hi:i<t.length) (hi2:i2<t.length) (hne:i≠i2):zht k s (j:Int) (i:Int) (i2:Int)=some (sqS s j t i i2):=by
 obtain ⟨hC,_,_⟩:=z27 hk h
 have hsl:=(hC.simp t (ym hj)).len4
 obtain ⟨f1,f2,_⟩:=zil hC hj h3 hi
 obtain ⟨R,K,C,m1,m2,m3,⟨f,f3,hx⟩,hil⟩:=zsw hk hs h hj h3 hi hi2 hne
 have hF:((zf s.1 t).map fun i:Nat=>(i:Int))[i]?=some (((zf s.1 t).getD i 0:Nat):Int):=by rw [yu,f2]; rfl
 unfold zht
 rw [zso hk hC hj]
 simp only [y6,yp,yg,ye,hil,yz,y7,hF,zoq hk hs h hj hil]
 by_cases c:i<i2
 ·have hw:z6 ((i2:Int)-1)=((i2-1:Nat):Int):=by rw [ze (by omega) (by omega)]; omega
  rw [y4 c] at m2 m3 hx
  rw [yb (by omega),y4 rfl,hw,zoq hk hs h f3 hx]
  simp only [y6,z15x hk m1 m2,m3]
 ·rw [y5 c] at m2 m3 hx
  rw [ya (by omega),y5 (by simp),zoq hk hs h f3 hx]
  simp only [y6,z15x hk m1 m2,m3]
theorem zor {k:Nat} (hk:KK≤k) {s:She} (hs:smallSh s) (h:z1f k s=true) {j:Nat} {t:List Int} (hj:s.1[j]?=some t) (h3:2<t.length) {i i2:Nat} (hi:i<t.length) (hi2:i2<t.length) (hne:i≠i2) :
  z7n k s (j:Int) (i:Int)=some (mpS s j i)∧z7n k s (((zf s.1 t).getD i 0:Nat):Int) ((if i<i2 then i2-1 else i2:Nat):Int)=some (mpS s ((zf s.1 t).getD i 0) (if i<i2 then i2-1 else i2)) ∧
   zfr k (mpS s j i) (mpS s ((zf s.1 t).getD i 0) (if i<i2 then i2-1 else i2))=some (sqS s j t i i2):=by
 obtain ⟨R,K,C,m1,m2,m3,⟨f,f3,hx⟩,hil⟩:=zsw hk hs h hj h3 hi hi2 hne
 exact ⟨zsv hk hs h hj hil,zsv hk hs h f3 hx,by rw [z1np hk m1 m2,m3]⟩
theorem zos {k:Nat} (hk:KK≤k) {a b:Mat} (ha:a.2.2.2.length≤1048576):zm2 k a b=some (decide (a=b)):=by
 have hK:=zg
 obtain ⟨a1,a2,a3,a4⟩:=a
 obtain ⟨b1,b2,b3,b4⟩:=b
 unfold zm2
 simp only at ha ⊢
 by_cases e1:a1=b1
 case neg=>rw [ya e1,y4 (by simp),ya (fun z=>e1 (by cases z; rfl))]
 rw [yb e1,y5 (by simp)]
 by_cases e2:a2=b2
 case neg=>rw [ya e2,y4 (by simp),ya (fun z=>e2 (by cases z; rfl))]
 rw [yb e2,y5 (by simp)]
 by_cases e3:a3=b3
 case neg=>rw [ya e3,y4 (by simp),ya (fun z=>e3 (by cases z; rfl))]
 rw [yb e3,y5 (by simp)]
 by_cases hl:a4.length=b4.length
 case neg=>rw [ya (by omega),y4 (by simp),ya (fun z=>hl (by cases z; rfl))]
 rw [yb (by omega),y5 (by simp)]
 have:=z8j (L:=fun n i=>zf3 k n (a1,a2,a3,a4) (b1,b2,b3,b4) i (some true)) a4 b4 hl ?_ ?_ (n:=k) (by omega)
 ·refine Eq.trans this ?_
  congr 1
  refine decide_eq_decide.2 ⟨fun z=>by rw [e1,e2,e3,z],fun z=>by cases z; rfl⟩
 ·intro n i x y hx hy hlt
  have hw:=zd (i:=i) (by omega)
  by_cases e:x=y <;> simp [zf3,hlt,hx,hy,hw,e]
 ·intro n
  simp [zf3]
theorem z160 {k:Nat} (hk:KK≤k) {a b:Mat} (ha:a.2.2.2.length≤1048576):znh k a b=some (decide (a=b)):=by
 have hK:=zg
 obtain ⟨a1,a2,a3,a4⟩:=a
 obtain ⟨b1,b2,b3,b4⟩:=b
 unfold znh zs2
 simp only at ha ⊢
 by_cases e1:a1=b1
 case neg=>rw [ya e1,y5 (by simp),ya (fun z=>e1 (by cases z; rfl))]
 rw [yb e1,y4 rfl]
 by_cases e2:a2=b2
 case neg=>rw [ya e2,y5 (by simp),ya (fun z=>e2 (by cases z; rfl))]
 rw [yb e2,y4 rfl]
 by_cases e3:a3=b3
 case neg=>rw [ya e3,y5 (by simp),ya (fun z=>e3 (by cases z; rfl))]
 rw [yb e3,y4 rfl]
 by_cases hl:a4.length=b4.length
 case neg=>rw [ya (by omega),y4 (by simp),ya (fun z=>hl (by cases z; rfl))]; rfl
 rw [yb (by omega),y5 (by simp)]
 have:=z8j (L:=fun n i=>zce k n a4 b4 (a4.length:Int) i (some true)) a4 b4 hl ?_ ?_ (n:=k) (by omega)
 ·have h0:zce k k a4 b4 (a4.length:Int) 0 (some true)=_:=this
  rw [h0]
  simp only [y6]
  congr 1
  refine decide_eq_decide.2 ⟨fun z=>by rw [e1,e2,e3,z],fun z=>by cases z; rfl⟩
 ·intro n i x y hx hy hlt
  have hw:=zd (i:=i) (by omega)
  by_cases e:x=y <;> simp [zce,hlt,hx,hy,hw,e]
 ·intro n
  simp [zce]
theorem z1ns (a b:Mat) (R K C:Nat):(zcv a b R K C).2.2.2.length=R*C:=z95 ..
theorem zsx (p:Int) (R N:Nat):∀ d c f (P:List Int),c+d=N→(∀ x∈P,0≤x∧x<(N:Int))→∀ x∈(gz p R d c f P).2,0≤x∧x<(N:Int)
 | 0,_,_,_,_,h=>h
 | d+1,c,f,P,hc,h=>by
  unfold gz
  split
  ·exact zsx p R N d (c+1) f P (by omega) h
  ·refine zsx p R N d (c+1) _ _ (by omega) fun x hx=>?_
   rcases yd.1 hx with hx | hx
   ·exact h x hx
   ·have:x=(c:Int):=by simpa using hx
    omega
theorem z161 {S R:Type} {L:Nat→Int→S→R} {b:Nat} {st:Nat→S} {p:Nat→Bool} {e x:R} (h1:∀ n (i:Nat),i<b→p i=true→L (n+1) (i:Int) (st i)=L n ((i+1:Nat):Int) (st (i+1))) (h2:∀ n (i:Nat),i<b→p i=false→L (n+1) (i:Int) (st i)=x) (h3:∀ n,L (n+1) (b:Int) (st b)=e) {n:Nat} (hn:b<n) :
  L n 0 (st 0)=if (List.range b).all p=true then e else x:=by
 have key:=zaj (L:=fun n z=>L n z (st z.toNat)) (b:=b) (p:=p) (e:=e) (Q:=fun r=>r=x) (fun n i hi hp=>by simp only [ye]; exact h1 n i hi hp) (fun n i hi hp=>by simp only [ye]; exact h2 n i hi hp) (fun n=>by simp only [ye]; exact h3 n) hn
 have e0:(0:Int).toNat=0:=rfl
 simp only [e0] at key
 cases hp:(List.range b).all p with
 | true=>rw [y4 rfl]; exact key.1 hp
 | false=>rw [y5 (by simp)]; exact key.2 hp
def z2w (m:Mat) (b:List Int) (C:Nat):Nat→Nat→Int:=fun i j=>if j<C then fM m C i j else b.getD i 0
theorem z1nt {m:Mat} {R C:Nat} (h:MatP m R C) {b:List Int} (hb:∀ x∈b,0≤x∧x≤m.1-1):BdF m.1 (z2w m b C):=fun i j=>by
 have hp:=h.prime
 unfold z2w
 split
 ·exact z1mq h C i j
 ·rw [y16]
  cases hx:b[i]? with
  | none=>exact ⟨by simp,by simp; omega⟩
  | some x=>have:=hb x (ym hx); simp only [y5k]; omega
theorem z162 {m:Mat} {C i:Nat} {b:List Int}:z16 (C+1) (z2w m b C) i=z16 C (fM m C) i++[b.getD i 0]:=by
 unfold z16
 rw [y35,y25]
 congr 1
 ·exact List.map_congr_left fun j hj=>by unfold z2w; rw [if_pos (List.mem_range.1 hj)]
 ·simp [z2w]
theorem z1nu (R C:Nat) (f:Nat→Nat→Int):zz (R+1) C f=zz R C f++z16 C f R:=by
 refine y3o fun t=>?_
 rcases y22 t (R*C) with ht | ht
 ·rw [y1w (by rw [z40]; exact ht)]
  unfold zz
  rw [yu,yu,y26 ht,y26 (by rw [y2a]; omega)]
 ·rw [y1r (by rw [z40]; exact ht),z40]
  rcases y22 t ((R+1)*C) with ht2 | ht2
  ·have hj:t-R*C<C:=by rw [y2a] at ht2; omega
   have:=z6y (R:=R+1) f (i:=R) (j:=t-R*C) (by omega) hj
   rw [show R*C+(t-R*C)=t by omega] at this
   rw [this,zcn f R hj]
  ·rw [y2v (by rw [z40]; exact ht2),y2v (by rw [zoa]; rw [y2a] at ht2; omega)]
def z61 (f:Nat→Nat→Int) (C:Nat) (P:List Int):Nat→List Int
 | 0=>List.replicate C 0
 | i+1=>(z61 f C P i).set (P.getD i 0).toNat (f i C)
theorem zim (f:Nat→Nat→Int) (C:Nat) (P:List Int):∀ i,(z61 f C P i).length=C
 | 0=>by simp [z61]
 | i+1=>by simp [z61,zim f C P i]
def zot (f:Nat→Nat→Int) (C:Nat) (P:List Int):List Int×Bool:=if (List.range P.length).all (fun i=>!decide (P.getD i 0=(C:Int)))=true then (z61 f C P P.length,true) else ([],false)
theorem z1nv {k:Nat} (hk:KK≤k) {m:Mat} {R C:Nat} (h:MatP m R C) {b:List Int} (hl:b.length=R):zmb k m (m.1,(m.2.1,(1,b)))=some (m.1,m.2.1,((C+1:Nat):Int),zz R (C+1) (z2w m b C)):=by
 have hK:=zg
 have hL:=z1q
 have h32:=h.c32
 have hr32:=h.r32
 unfold zmb
 have hw1:z6 (m.2.2.1+1)=((C+1:Nat):Int):=by rw [h.cols,ze (by omega) (by omega)]; omega
 simp only [hw1]
 have:=zac (S:=List Int) (L:=fun n i q=>zf7 k n m (m.1,(m.2.1,(1,b))) i [] q 0 0 0 m.1 m.2.1 ((C+1:Nat):Int) (fun q_3 q_4 v_4a_5 v_4ba_6 v_4bba_7 v_5a_8 v_5ba_9 v_5bba_10=>some (v_5a_8,(v_5ba_9,(v_5bba_10,q_4))))) (b:=R) (st:=fun i=>zz i (C+1) (z2w m b C)) (e:=some (m.1,m.2.1,((C+1:Nat):Int),zz R (C+1) (z2w m b C))) ?_ ?_ (n:=k) (by omega)
 ·have e0:zz 0 (C+1) (z2w m b C)=[]:=by unfold zz; rw [Nat.zero_mul]; rfl
  rw [e0] at this
  exact this
 ·intro n i hi
  have hlt:(i:Int)<m.2.1:=by rw [h.rows]; omega
  have hw:=zd (i:=i) (by omega)
  have a1:(i+1)*C≤R*C:=y1z _ hi
  have a2:R*C≤32*32:=y1p hr32 h32
  have a3:(i+1)*C=i*C+C:=y2a _ _
  have a4:i*(C+1)=i*C+i:=Nat.mul_succ _ _
  have m1:z6 ((i:Int)*m.2.2.1)=((i*C:Nat):Int):=by rw [h.cols,← y3q]; exact ze (by omega) (by omega)
  have m2:z6 (((i+1:Nat):Int)*m.2.2.1)=(((i+1)*C:Nat):Int):=by rw [h.cols,← y3q]; exact ze (by omega) (by omega)
  have m3:z6 ((i:Int)*1)=(i:Int):=by rw [ze (by omega) (by omega)]; omega
  have m4:z6 (((i+1:Nat):Int)*1)=((i+1:Nat):Int):=by rw [ze (by omega) (by omega)]; omega
  have c1:(0:Int)≤((i*C:Nat):Int)∧((i*C:Nat):Int)≤(((i+1)*C:Nat):Int)∧(((i+1)*C:Nat):Int)≤(m.2.2.2.length:Int):=⟨by omega,by omega,by rw [h.len]; omega⟩
  have c2:(0:Int)≤(i:Int)∧(i:Int)≤((i+1:Nat):Int)∧((i+1:Nat):Int)≤(b.length:Int):=⟨by omega,by omega,by omega⟩
  have hrow:(m.2.2.2.drop (i*C)).take ((i+1)*C-i*C)=z16 C (fM m C) i:=by
   rw [show (i+1)*C-i*C=C by omega]
   have:=congrArg (fun l:List (List Int)=>l[i]?) (z15d h)
   simp only [yu,y26 hi,z6a (fM m C) hi,y20,y37] at this
   exact this
  have hbi:(b.drop i).take (i+1-i)=[b.getD i 0]:=by
   rw [show i+1-i=1 by omega,y16,yj (by omega),y2i (by omega)]
   rfl
  have l1:(zz i (C+1) (z2w m b C)).length=i*C+i:=by rw [z40]; omega
  have l2:(z16 C (fM m C) i).length=C:=zoa _ _ _
  simp only [zf7,hlt,y9,y7,hw,m1,m2,m3,m4,ye,c1,c2,yz,hrow,hbi,yl,l1,l2,yy]
  rw [y4 (by omega),y4 (by omega),z1nu,z162,y11]
 ·intro n
  have:¬ (R:Int)<m.2.1:=by rw [h.rows]; omega
  simp only [zf7,this,yf,yc,y8]
theorem z1nw {k:Nat} (hk:KK≤k) {m:Mat} {R C:Nat} (h:MatP m R C) {b:List Int} (hl:b.length=R) (hb:∀ x∈b,0≤x∧x≤m.1-1):∃ r,zml k m b=some r∧zo1 k m b=some r:=by
 have hK:=zg
 have hL:=z1q
 have h32:=h.c32
 have hr32:=h.r32
 have hp:=h.prime
 have hcols:0≤(C:Int)∧(C:Int)≤(C:Int)∧(C:Int)*8≤LIM:=⟨by omega,y2e _,by omega⟩
 have hbd:=z1nt h hb
 have hRC:R*(C+1)≤32*33:=y1p hr32 (by omega)
 obtain ⟨g,hg⟩:∃ g,g=gz m.1 R (C+1) 0 (z2w m b C) []:=⟨_,rfl⟩
 have hPl:g.2.length≤R:=by rw [hg]; exact zsh _ _ _ _ _ _ (y2k _)
 have hPv:∀ x∈g.2,0≤x∧x<((C+1:Nat):Int):=by rw [hg]; exact zsx _ _ _ _ _ _ _ (by omega) (by simp)
 have hPg:∀ i,i<g.2.length→g.2[i]?=some (g.2.getD i 0)∧0≤g.2.getD i 0∧g.2.getD i 0<((C+1:Nat):Int):=fun i hi=>by
  have e:g.2[i]?=some (g.2.getD i 0):=by rw [y16,yj hi]; rfl
  exact ⟨e,hPv _ (ym e)⟩
 refine ⟨zot g.1 C g.2,?_,?_⟩
 ·unfold zml
  rw [z1nv hk h hl]
  simp only [y6]
  obtain ⟨det,e⟩:=z1ml hk (m:=(m.1,m.2.1,((C+1:Nat):Int),zz R (C+1) (z2w m b C))) (R:=R) (C:=C+1) h.rows (by omega) (by omega) hp [] 0 0 0 m.1 m.2.1 ((C+1:Nat):Int) (fun det_100 q_101 q_102 q_103 v_2a_104 v_2ba_105 v_2bba_106 v_5a_107 v_5ba_108 v_5bba_109=>some ((v_5a_107,(v_5ba_108,(v_5bba_109,q_103))),q_101,det_100)) (C+1) 0 k (z2w m b C) [] 1 (by omega) (by omega) hbd (y2k _) (y2k _)
  rw [← hg] at e
  have hred:zme k (m.1,m.2.1,((C+1:Nat):Int),zz R (C+1) (z2w m b C))=some ((m.1,m.2.1,((C+1:Nat):Int),zz R (C+1) g.1),g.2,det):=by
   unfold zme
   rw [z1mr (by rw [z40]; omega)]
   simp only [y6]
   exact e
  rw [hred]
  simp only [y6]
  rw [h.cols,y4 hcols,ye]
  have:=z161 (S:=List Int) (L:=fun n i q=>zc3 k n m i g.2 q (zz R (C+1) (z2w m b C)) (zz R (C+1) g.1) m.1 m.2.1 ((C+1:Nat):Int) m.1 m.2.1 ((C+1:Nat):Int) (fun q_12=>some (q_12,true))) (b:=g.2.length) (st:=z61 g.1 C g.2) (p:=fun i=>!decide (g.2.getD i 0=(C:Int))) (e:=some (z61 g.1 C g.2 g.2.length,true)) (x:=some ([],false)) ?_ ?_ ?_ (n:=k) (by omega)
  ·refine Eq.trans this ?_
   unfold zot
   split <;> rfl
  ·intro n i hi hp0
   have hlt:(i:Int)<(g.2.length:Int):=by omega
   have hw:=zd (i:=i) (by omega)
   obtain ⟨p1,p2,p3⟩:=hPg i hi
   have hne:¬ g.2.getD i 0=(C:Int):=by simpa using hp0
   have hx:=z8z (i:=i) (C:=C+1) (j:=C) (by omega) (by omega) (by omega)
   have hl1:=ixl (R:=R) (C:=C+1) (i:=i) (j:=C) (by omega) (by omega)
   have hc:0≤g.2.getD i 0∧(g.2.getD i 0).toNat<C:=⟨p2,by omega⟩
   have hgx:(z61 g.1 C g.2 i)[(g.2.getD i 0).toNat]?=some ((z61 g.1 C g.2 i)[(g.2.getD i 0).toNat]'(by rw [zim]; exact hc.2)):=yj _
   simp only [zc3,hlt,y9,y7,yg,ye,hi,yz,p1,y6,h.cols,hne,yf,yc,y8,hx,z40,hl1,z6y g.1 (show i<R by omega) (show C<C+1 by omega),zim,hc,hgx,hw]
   rfl
  ·intro n i hi hp0
   have hlt:(i:Int)<(g.2.length:Int):=by omega
   obtain ⟨p1,p2,p3⟩:=hPg i hi
   have hne:g.2.getD i 0=(C:Int):=by simpa using hp0
   simp only [zc3,hlt,y9,y7,yg,ye,hi,yz,p1,y6,h.cols,hne]
  ·intro n
   simp only [zc3,yw,yf,yc,y8]
 ·unfold zo1
  rw [z14v hk h,z15d h]
  simp only [y6,z7s]
  obtain ⟨det,e⟩:=z1ms hk (R:=R) (C:=C+1) (by omega) (by omega) hp hbd
  rw [← hg] at e
  have hcw:z6 (m.2.2.1+1)=((C+1:Nat):Int):=by rw [h.cols,ze (by omega) (by omega)]; omega
  have l1:=z161 (S:=List Int) (L:=fun n i q=>zab k n (g.2.length:Int) i (z1p R (C+1) g.1) q g.2 m (fun q_17=>some (q_17,true))) (b:=g.2.length) (st:=z61 g.1 C g.2) (p:=fun i=>!decide (g.2.getD i 0=(C:Int))) (e:=some (z61 g.1 C g.2 g.2.length,true)) (x:=some ([],false)) ?_ ?_ ?_ (n:=k) (by omega)
  ·have l0:=zac (S:=List (List Int)) (L:=fun n i q=>zcm k n b (R:Int) i q m (fun q_6 v_7=>(znz k (z6 (v_7.2.2.1+1)) v_7.1 q_6).bind fun y_8=>(if 0≤v_7.2.2.1∧v_7.2.2.1≤v_7.2.2.1∧v_7.2.2.1*8≤LIM then zab k k (List.length y_8.2.1.2.1:Int) 0 y_8.2.1.1 (List.replicate v_7.2.2.1.toNat 0) y_8.2.1.2.1 v_7 (fun q_17=>some (q_17,true)) else none))) (b:=R) (st:=fun n=>(List.range R).map fun (i:Nat)=>if i<n then z16 (C+1) (z2w m b C) i else z16 C (fM m C) i) (e:=some (zot g.1 C g.2)) ?_ ?_ (n:=k) (by omega)
   ·refine Eq.trans ?_ l0
    have:z1p R C (fM m C)=(List.range R).map fun (i:Nat)=>if i<0 then z16 (C+1) (z2w m b C) i else z16 C (fM m C) i:=by
     unfold z1p
     exact y3b fun i _=>by rw [y5 (y3g _)]
    rw [this]
   ·intro n i hi
    have hlt:(i:Int)<(R:Int):=by omega
    have hw:=zd (i:=i) (by omega)
    have hbi:b[i]?=some (b.getD i 0):=by rw [y16,yj (by omega)]; rfl
    have hgi:((List.range R).map fun (x:Nat)=>if x<i then z16 (C+1) (z2w m b C) x else z16 C (fM m C) x)[i]?=some (z16 C (fM m C) i):=by
     rw [yu,y26 hi]
     simp only [y20,y23,y8]
    have hset:((List.range R).map fun (x:Nat)=>if x<i then z16 (C+1) (z2w m b C) x else z16 C (fM m C) x).set i (z16 C (fM m C) i++[b.getD i 0])=(List.range R).map fun (x:Nat)=>if x<i+1 then z16 (C+1) (z2w m b C) x else z16 C (fM m C) x:=by
     rw [← z162]
     refine y3o fun x=>?_
     rw [y4s,yp,y15]
     by_cases hx:x<R
     ·rw [yu,yu,y26 hx]
      simp only [y20]
      by_cases e2:i=x
      ·subst e2; rw [y4 rfl,y4 hx,y4 (y3w _)]
      ·rw [y5 e2]
       by_cases e3:x<i
       ·rw [y4 e3,y4 (show x<i+1 by omega)]
       ·rw [y5 e3,y5 (show ¬ x<i+1 by omega)]
     ·rw [List.getElem?_eq_none (by simpa using hx),List.getElem?_eq_none (by simpa using hx),if_neg (by omega)]
    have hln:(z16 C (fM m C) i).length=C:=zoa _ _ _
    simp only [zcm,hlt,y9,y7,yg,ye,yp,y15,hi,yz,hgi,y6,hbi,hw,hln,yy]
    rw [y4 (by omega)]
    show zcm k n b (R:Int) ((i+1:Nat):Int) (List.set _ i (z16 C (fM m C) i++[b.getD i 0])) m _=_
    rw [hset]
   ·intro n
    have hE:((List.range R).map fun (x:Nat)=>if x<R then z16 (C+1) (z2w m b C) x else z16 C (fM m C) x)=z1p R (C+1) (z2w m b C):=by
     unfold z1p
     exact y3b fun i hi=>by rw [y4 (y1a.1 hi)]
    simp only [zcm,yw,yf,yc,y8,hcw,hE,e,y6]
    rw [h.cols,y4 hcols,ye]
    refine Eq.trans l1 ?_
    unfold zot
    split <;> rfl
  ·intro n i hi hp0
   have hlt:(i:Int)<(g.2.length:Int):=by omega
   have hw:=zd (i:=i) (by omega)
   obtain ⟨p1,p2,p3⟩:=hPg i hi
   have hne:¬ g.2.getD i 0=(C:Int):=by simpa using hp0
   have hc:0≤g.2.getD i 0∧(g.2.getD i 0).toNat<C:=⟨p2,by omega⟩
   have hiR:i<R:=by omega
   have hgx:(z61 g.1 C g.2 i)[(g.2.getD i 0).toNat]?=some ((z61 g.1 C g.2 i)[(g.2.getD i 0).toNat]'(by rw [zim]; exact hc.2)):=yj _
   simp only [zab,hlt,y9,y7,yg,ye,hi,yz,p1,y6,h.cols,hne,yf,yc,y8,z7s,hiR,z6a g.1 hiR,zcn g.1 i (show C<C+1 by omega),zim,hc,hgx,hw]
   rfl
  ·intro n i hi hp0
   have hlt:(i:Int)<(g.2.length:Int):=by omega
   obtain ⟨p1,p2,p3⟩:=hPg i hi
   have hne:g.2.getD i 0=(C:Int):=by simpa using hp0
   simp only [zab,hlt,y9,y7,yg,ye,hi,yz,p1,y6,h.cols,hne]
  ·intro n
   simp only [zab,yw,yf,yc,y8]
def zcw (s:She) (j:Nat) (t:List Int) (i i2:Nat):Bool:=decide (sqS s j t i i2=sqS s j t i2 i)
def z6e (s:She) (j:Nat) (t:List Int) (i:Nat):Bool:=(List.range (t.length-(i+1))).all fun d=>zcw s j t i (i+1+d)
def z4o (s:She) (j:Nat):Bool:=match s.1[j]? with
 | some t=>if 2<t.length then (List.range t.length).all (z6e s j t) else true
 | none=>true
theorem zga {k:Nat} (hk:KK≤k) {s:She} (hs:smallSh s) (h:z1f k s=true) {j:Nat} {t:List Int} (hj:s.1[j]?=some t) (h3:2<t.length) {i i2:Nat} (hi:i<t.length) (hi2:i2<t.length) (hne:i≠i2):(sqS s j t i i2).2.2.2.length≤1048576:=by
 obtain ⟨R,K,C,m1,m2,m3,_⟩:=zsw hk hs h hj h3 hi hi2 hne
 rw [← m3,z1ns]
 have:R*C≤32*32:=y1p m1.r32 m2.c32
 omega
theorem zsy {k:Nat} (hk:KK≤k) {s:She} (hs:smallSh s) (h:z1f k s=true) {j:Nat} {t:List Int} (hj:s.1[j]?=some t) (h3:2<t.length) {i:Nat} (hi:i<t.length) (E:She→Int→Int→Int→Option (Int×Int×Int)) :
  (z6e s j t i=true→z39 k k s (j:Int) (t.length:Int) (i:Int) ((i+1:Nat):Int) E=E s (j:Int) (t.length:Int) (i:Int))∧(z6e s j t i=false→∃ a b:Int,z39 k k s (j:Int) (t.length:Int) (i:Int) ((i+1:Nat):Int) E=some ((j:Int),a,b)):=by
 have hK:=zg
 obtain ⟨hC,_,_⟩:=z27 hk h
 have h4:=(hC.simp t (ym hj)).len4
 have key:=zaj (L:=fun n z=>z39 k n s (j:Int) (t.length:Int) (i:Int) (((i+1:Nat):Int)+z) E) (b:=t.length-(i+1)) (p:=fun d=>zcw s j t i (i+1+d)) (e:=E s (j:Int) (t.length:Int) (i:Int)) (Q:=fun r=>∃ a b:Int,r=some ((j:Int),a,b)) ?_ ?_ ?_ (n:=k) (by omega)
 ·rw [y52] at key
  exact key
 ·intro n d hd hp
  have e1:((i+1:Nat):Int)+(d:Int)=((i+1+d:Nat):Int):=by omega
  have e2:((i+1:Nat):Int)+((d+1:Nat):Int)=((i+1+d+1:Nat):Int):=by omega
  have hlt:((i+1+d:Nat):Int)<(t.length:Int):=by omega
  have hw:=zd (i:=i+1+d) (by omega)
  have hsq:decide (sqS s j t i (i+1+d)=sqS s j t (i+1+d) i)=true:=hp
  show z39 k (n+1) s (j:Int) (t.length:Int) (i:Int) (((i+1:Nat):Int)+(d:Int)) E=z39 k n s (j:Int) (t.length:Int) (i:Int) (((i+1:Nat):Int)+((d+1:Nat):Int)) E
  rw [e1,e2]
  simp only [z39,hlt,y9,y7,zak hk hs h hj h3 hi (show i+1+d<t.length by omega) (by omega),zak hk hs h hj h3 (show i+1+d<t.length by omega) hi (by omega),y6,zos hk (zga hk hs h hj h3 hi (show i+1+d<t.length by omega) (by omega)),hsq,y14,yc,y8,hw]
 ·intro n d hd hp
  have e1:((i+1:Nat):Int)+(d:Int)=((i+1+d:Nat):Int):=by omega
  have hlt:((i+1+d:Nat):Int)<(t.length:Int):=by omega
  have hsq:decide (sqS s j t i (i+1+d)=sqS s j t (i+1+d) i)=false:=hp
  refine ⟨(i:Int),((i+1+d:Nat):Int),?_⟩
  show z39 k (n+1) s (j:Int) (t.length:Int) (i:Int) (((i+1:Nat):Int)+(d:Int)) E=_
  rw [e1]
  simp only [z39,hlt,y9,y7,zak hk hs h hj h3 hi (show i+1+d<t.length by omega) (by omega),zak hk hs h hj h3 (show i+1+d<t.length by omega) hi (by omega),y6,zos hk (zga hk hs h hj h3 hi (show i+1+d<t.length by omega) (by omega)),hsq,y2j]
 ·intro n
  have e1:((i+1:Nat):Int)+((t.length-(i+1):Nat):Int)=(t.length:Int):=by omega
  show z39 k (n+1) s (j:Int) (t.length:Int) (i:Int) (((i+1:Nat):Int)+((t.length-(i+1):Nat):Int)) E=_
  rw [e1]
  simp only [z39,yw,yf,yc,y8]
theorem z163 {k:Nat} (hk:KK≤k) {s:She} (hs:smallSh s) (h:z1f k s=true) {j:Nat} {t:List Int} (hj:s.1[j]?=some t) (E:She→Int→Option (Int×Int×Int)) :
  (z4o s j=true→z3y k k s (j:Int) (t.length:Int) 0 E=E s (j:Int))∧(z4o s j=false→∃ a b:Int,z3y k k s (j:Int) (t.length:Int) 0 E=some ((j:Int),a,b)):=by
 have hK:=zg
 obtain ⟨hC,_,_⟩:=z27 hk h
 have h4:=(hC.simp t (ym hj)).len4
 unfold z4o
 rw [hj]
 simp only
 by_cases h3:2<t.length
 ·rw [y4 h3]
  refine zaj (L:=fun n i=>z3y k n s (j:Int) (t.length:Int) i E) (b:=t.length) (p:=z6e s j t) (e:=E s (j:Int)) (Q:=fun r=>∃ a b:Int,r=some ((j:Int),a,b)) ?_ ?_ ?_ (n:=k) (by omega)
  ·intro n i hi hp
   have hlt:(i:Int)<(t.length:Int):=by omega
   have hlt3:(2:Int)<(t.length:Int):=by omega
   have hw:=zd (i:=i) (by omega)
   have:=(zsy hk hs h hj h3 hi (fun s_2 k_3 n_4 i_5=>z3y k n s_2 k_3 n_4 (z6 (i_5+1)) E)).1 hp
   simp only [z3y,hlt,hlt3,y9,y7,hw,this]
  ·intro n i hi hp
   have hlt:(i:Int)<(t.length:Int):=by omega
   have hlt3:(2:Int)<(t.length:Int):=by omega
   have hw:=zd (i:=i) (by omega)
   obtain ⟨a,b,this⟩:=(zsy hk hs h hj h3 hi (fun s_2 k_3 n_4 i_5=>z3y k n s_2 k_3 n_4 (z6 (i_5+1)) E)).2 hp
   refine ⟨a,b,?_⟩
   simp only [z3y,hlt,hlt3,y9,y7,hw,this]
  ·intro n
   simp only [z3y,yw,yf,yc,y8]
 ·rw [y5 h3]
  refine ⟨fun _=>?_,fun z=>by cases z⟩
  obtain ⟨n,rfl⟩:∃ n,k=n+1:=⟨k-1,by omega⟩
  have hlt3:¬ (2:Int)<(t.length:Int):=by omega
  simp only [z3y,hlt3,yf,yc,y8,ite_self]
theorem z165 {k:Nat} (hk:KK≤k) {s:She} (hs:smallSh s) (h:z1f k s=true) {j:Nat} {t:List Int} (hj:s.1[j]?=some t) (h3:2<t.length) {i:Nat} (hi:i<t.length) (x15:List (List Int)) (x16 x17 x31 x32:Int) (E:List Int→Int→List (List Int)→Int→Int→Int→Int→List Int→She→Option (Int×Int×Bool)) :
  (z6e s j t i=true→z2t k k t (j:Int) (i:Int) ((i+1:Nat):Int) x15 x16 x17 x31 x32 ((zf s.1 t).map fun i:Nat=>(i:Int)) s E=E t (j:Int) x15 x16 x17 x31 x32 ((zf s.1 t).map fun i:Nat=>(i:Int)) s)∧(z6e s j t i=false→∃ a b:Int,z2t k k t (j:Int) (i:Int) ((i+1:Nat):Int) x15 x16 x17 x31 x32 ((zf s.1 t).map fun i:Nat=>(i:Int)) s E=some (a,b,true)):=by
 have hK:=zg
 obtain ⟨hC,_,_⟩:=z27 hk h
 have h4:=(hC.simp t (ym hj)).len4
 have hF:∀ i,i<t.length→i<(zf s.1 t).length∧((zf s.1 t).map fun i:Nat=>(i:Int))[i]?=some (((zf s.1 t).getD i 0:Nat):Int):=fun i hi=>by
  obtain ⟨f1,f2,_⟩:=zil hC hj h3 hi
  exact ⟨by omega,by rw [yu,f2]; rfl⟩
 have step:∀ n d,d<t.length-(i+1)→z2t k (n+1) t (j:Int) (i:Int) ((i+1+d:Nat):Int) x15 x16 x17 x31 x32 ((zf s.1 t).map fun i:Nat=>(i:Int)) s E=(if (!decide (sqS s j t i (i+1+d)=sqS s j t (i+1+d) i))=true then (z8v k s.1 (((zf s.1 t).getD i 0:Nat):Int)).bind fun r_15=>(if 0≤((i+1+d-1:Nat):Int)∧(((i+1+d-1:Nat):Int)).toNat<List.length r_15 then (r_15[(((i+1+d-1:Nat):Int)).toNat]?).bind fun y_16=>some ((j:Int),y_16,true) else none) else z2t k n t (j:Int) (i:Int) ((i+1+d+1:Nat):Int) x15 x16 x17 x31 x32 ((zf s.1 t).map fun i:Nat=>(i:Int)) s E):=by
  intro n d hd
  have hi2:i+1+d<t.length:=by omega
  have hlt:((i+1+d:Nat):Int)<(t.length:Int):=by omega
  have hw:=zd (i:=i+1+d) (by omega)
  have hw1:z6 (((i+1+d:Nat):Int)-1)=((i+1+d-1:Nat):Int):=by rw [ze (by omega) (by omega)]; omega
  obtain ⟨a1,a2,a3⟩:=zor hk hs h hj h3 hi hi2 (by omega)
  obtain ⟨b1,b2,b3⟩:=zor hk hs h hj h3 hi2 hi (by omega)
  rw [y4 (by omega)] at a2 a3
  rw [y5 (by omega)] at b2 b3
  obtain ⟨g1,g2⟩:=hF i hi
  obtain ⟨g3,g4⟩:=hF (i+1+d) hi2
  simp only [z2t,hlt,y9,y7,a1,y6,yp,yg,ye,g1,yz,g2,hw1,a2,a3,b1,g3,g4,b2,b3,z160 hk (zga hk hs h hj h3 hi hi2 (by omega)),hw]
 have key:=zaj (L:=fun n z=>z2t k n t (j:Int) (i:Int) (((i+1:Nat):Int)+z) x15 x16 x17 x31 x32 ((zf s.1 t).map fun i:Nat=>(i:Int)) s E) (b:=t.length-(i+1)) (p:=fun d=>zcw s j t i (i+1+d)) (e:=E t (j:Int) x15 x16 x17 x31 x32 ((zf s.1 t).map fun i:Nat=>(i:Int)) s) (Q:=fun r=>∃ a b:Int,r=some (a,b,true)) ?_ ?_ ?_ (n:=k) (by omega)
 ·rw [y52] at key
  exact key
 ·intro n d hd hp
  have e1:((i+1:Nat):Int)+(d:Int)=((i+1+d:Nat):Int):=by omega
  have e2:((i+1:Nat):Int)+((d+1:Nat):Int)=((i+1+d+1:Nat):Int):=by omega
  have hp':decide (sqS s j t i (i+1+d)=sqS s j t (i+1+d) i)=true:=hp
  show z2t k (n+1) t (j:Int) (i:Int) (((i+1:Nat):Int)+(d:Int)) x15 x16 x17 x31 x32 ((zf s.1 t).map fun i:Nat=>(i:Int)) s E=z2t k n t (j:Int) (i:Int) (((i+1:Nat):Int)+((d+1:Nat):Int)) x15 x16 x17 x31 x32 ((zf s.1 t).map fun i:Nat=>(i:Int)) s E
  rw [e1,e2,step n d hd,y5 (by rw [hp']; simp)]
 ·intro n d hd hp
  have e1:((i+1:Nat):Int)+(d:Int)=((i+1+d:Nat):Int):=by omega
  have hp':decide (sqS s j t i (i+1+d)=sqS s j t (i+1+d) i)=false:=hp
  obtain ⟨_,_,f,f3,f4,f5⟩:=zil hC hj h3 hi
  have hlen:i+1+d-1<(zf s.1 f).length:=by omega
  have hgf:((zf s.1 f).map fun i:Nat=>(i:Int))[i+1+d-1]?=some (((zf s.1 f)[i+1+d-1]:Nat):Int):=by rw [yu,yj hlen]; rfl
  refine ⟨(j:Int),(((zf s.1 f)[i+1+d-1]:Nat):Int),?_⟩
  show z2t k (n+1) t (j:Int) (i:Int) (((i+1:Nat):Int)+(d:Int)) x15 x16 x17 x31 x32 ((zf s.1 t).map fun i:Nat=>(i:Int)) s E=_
  rw [e1,step n d hd,y4 (by rw [hp']; rfl),zct hk hC f3]
  simp only [y6,yp,yg,ye,hlen,yz,y7,hgf]
 ·intro n
  have e1:((i+1:Nat):Int)+((t.length-(i+1):Nat):Int)=(t.length:Int):=by omega
  show z2t k (n+1) t (j:Int) (i:Int) (((i+1:Nat):Int)+((t.length-(i+1):Nat):Int)) x15 x16 x17 x31 x32 ((zf s.1 t).map fun i:Nat=>(i:Int)) s E=_
  rw [e1]
  simp only [z2t,yw,yf,yc,y8]
theorem z166 {d:Nat} (h:d<10):z_u8 (UInt8.ofNat (48+d))=((48+d:Nat):Int):=by
 have:(UInt8.ofNat (48+d)).toNat=48+d:=by simp [UInt8.toNat_ofNat']; omega
 show ((UInt8.ofNat (48+d)).toNat:Int)=_
 rw [this]
theorem zsz {d:Nat} (h:d<10):z6r (z6 (48+(d:Int)))=((48+d:Nat):Int):=by
 rw [ze (by omega) (by omega)]
 unfold z6r IntKind.wrap
 simp [IntKind.bits,IntKind.signed]; omega
def z33 (u:Nat):List Int:=if u=0 then [] else ((Lib.decDigits u).map z_u8).reverse
theorem zou {u:Nat} (h:u≠0):z33 u=((48+u % 10:Nat):Int)::z33 (u / 10):=by
 unfold z33
 rw [y5 h]
 by_cases h1:u<10
 ·rw [Lib.decDigits,dif_pos h1,y4 (by omega)]
  have:=z166 h1
  rw [Nat.mod_eq_of_lt h1,y1j,y33,this]
  rfl
 ·rw [Lib.decDigits,dif_neg h1,y5 (by omega)]
  have:=z166 (d:=u % 10) (by omega)
  rw [y25,y1j,y33,this,y5s]
  rfl
theorem zt0:∀ (j u:Nat),u<10 ^ j→(z33 u).length≤j
 | 0,u,h=>by
  have:u=0:=by simpa using h
  subst this; simp [z33]
 | j+1,u,h=>by
  by_cases h0:u=0
  ·subst h0; simp [z33]
  ·rw [zou h0,y1k]
   have:=zt0 j (u / 10) (by rw [Nat.pow_succ] at h; omega)
   omega
end Go.Proofs.YtchfjdcfhlhgcaaGreatDoor.Ev
