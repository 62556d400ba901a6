/- Plain laws of the printed functions. No conditions but those in each statement. -/
import Derived.Test.YtiodkblajaenbaaGreatDoorEv6
import Derived.Test.YtiodkblajaenbaaGreatDoorG12
set_option linter.unusedVariables false
set_option linter.unusedSimpArgs false
namespace Go.Proofs.YtiodkblajaenbaaGreatDoor.Ev
open Go.RowKit
theorem z6m (n a b:Int):z49 n a b=some (decide (a≤n∧n≤b)):=by
 unfold z49
 by_cases h:a≤n <;> simp [h]
theorem z7g (n a b:Int):z32 n a b=some (decide (a≤n∧n≤b)):=by
 unfold z32
 by_cases h:a≤n <;> simp [h]
theorem z18l {k:Nat} {p:Int} (hp:p≤251):∀ (m d n:Nat),17-d≤m→2≤d→m<n→d≤17→∃ b,z9d k n p (d:Int) (some true)=some b∧z9o k n p (d:Int) (some true)=some b
 | m,d,0,_,_,h,_=>by omega
 | 0,d,n+1,h,h2,_,h4=>by
  have hd:d=17:=by omega
  subst hd
  have w1:z6 (((17:Nat):Int)*((17:Nat):Int))=289:=by rw [ze (by omega) (by omega)]; rfl
  have hc:¬ ((289:Int)≤p):=by omega
  refine ⟨true,?_,?_⟩
  ·unfold z9d; rw [w1,decide_eq_false hc,if_neg (by simp)]
  ·unfold z9o; rw [w1,decide_eq_false hc,if_neg (by simp)]
 | m+1,d,n+1,h,h2,hn,h4=>by
  by_cases hc:z6 ((d:Int)*(d:Int))≤p
  ·have hd0:¬ ((d:Int)=0):=by omega
   have hw:=zd (i:=d) (by omega)
   by_cases hm:Int.tmod p (d:Int)=0
   ·refine ⟨false,?_,?_⟩
    ·unfold z9d; rw [decide_eq_true hc,if_pos rfl,if_neg hd0,decide_eq_true hm,if_pos rfl]
    ·unfold z9o; rw [decide_eq_true hc,if_pos rfl,if_neg hd0,decide_eq_true hm,if_pos rfl]
   ·by_cases h17:d=17
    ·subst h17
     have w1:z6 (((17:Nat):Int)*((17:Nat):Int))=289:=by rw [ze (by omega) (by omega)]; rfl
     rw [w1] at hc; omega
    ·obtain ⟨b,h5,h6⟩:=z18l (k:=k) hp m (d+1) n (by omega) (by omega) (by omega) (by omega)
     refine ⟨b,?_,?_⟩
     ·rw [← h5]; conv=>lhs; unfold z9d
      rw [yc hc,y4 rfl,y5 hd0,yb hm,y5 (by simp),hw]
     ·rw [← h6]; conv=>lhs; unfold z9o
      rw [yc hc,y4 rfl,y5 hd0,yb hm,y5 (by simp),hw]
  ·refine ⟨true,?_,?_⟩
   ·unfold z9d; rw [decide_eq_false hc,if_neg (by simp)]
   ·unfold z9o; rw [decide_eq_false hc,if_neg (by simp)]
theorem z18m {k:Nat} (hk:KK≤k) (p:Int):∃ b,zco k p=some b∧zh1 k p=some b∧(b=true→2≤p∧p≤251):=by
 have hK:=zf
 unfold zco zt2 zh1
 rw [z7g,z6m]
 by_cases h:2≤p∧p≤251
 ·obtain ⟨b,h1,h2⟩:=z18l (k:=k) (p:=p) h.2 15 2 k (by omega) (by omega) (by omega) (by omega)
  have h1:z9d k k p 2 (some true)=some b:=h1
  have h2:z9o k k p 2 (some true)=some b:=h2
  refine ⟨b,?_,?_,fun _=>h⟩
  ·simp [h,h1]
  ·simp [h,h2]
 ·exact ⟨false,by simp [h],by simp [h],fun h=>by cases h⟩
theorem zdo {α:Type} (p:α→Bool) (xs:List α):decide (0≤zj3 p xs)=xs.any p:=by
 unfold zj3
 cases h:xs.findIdx? p with
 | some i =>
  obtain ⟨hlt,hp,_⟩:=List.findIdx?_eq_some_iff_getElem.1 h
  have:xs.any p=true:=y37.2 ⟨_,y1e hlt,hp⟩
  rw [this]; simp
 | none =>
  rw [y68] at h
  have:xs.any p=false:=y3b.2 fun x hx=>by rw [h x hx]; simp
  rw [this]; simp
abbrev Mat:=Int×Int×Int×List Int
theorem zjz {k:Nat} (hk:KK≤k) {v:List Int} (hv:v.length≤1048576) (n:Int) {p:Int} (hp : -1000000≤p∧p≤1000000):z7d k v n p=some (v.all (fun x=>decide (0≤x∧x≤p-1))&&decide ((v.length:Int)=n)):=by
 have hK:=zf
 have hw1:z6 (p-1)=p-1:=ze (by omega) (by omega)
 unfold z7d
 have:=zmg (L:=fun m i=>zga k m v n p i (fun v_3 n_4=>some (decide ((List.length v_3:Int)=n_4)))) (p:=fun x=>decide (0≤x∧x≤p-1)) (r:=some false) (e:=some (decide ((v.length:Int)=n))) v ?_ ?_ (n:=k) (by omega)
 ·refine this.trans ?_
  cases v.all (fun x=>decide (0≤x∧x≤p-1)) <;> simp
 ·intro m i x hx hlt
  have hw:=zd (i:=i) (by omega)
  simp only [zga,hlt,y9,y7,yg,yd,hx,y6,z7g,hw1,hw]
  by_cases c:0≤x∧x≤p-1 <;> simp [c]
 ·intro m
  simp only [zga,yp,yf,ya,y8]
theorem zum {k:Nat} (hk:KK≤k) {v:List Int} (hv:v.length≤1048576) {p:Int} (hp : -1000000≤p∧p≤1000000):zfq k v p=some (v.all (fun x=>decide (0≤x∧x≤p-1))):=by
 have hK:=zf
 have hw1:z6 (p-1)=p-1:=ze (by omega) (by omega)
 unfold zfq zu1 zu0
 rw [zav (L:=fun n i=>zh7 k n v p (v.length:Int) i (some (-1))) (p:=fun x=>!decide (0≤x∧x≤p-1)) v ?_ ?_ (n:=k) (by omega)]
 ·simp only [y6,zdo]
  congr 1
  rw [← List.not_all_eq_any_not,y5v]
 ·intro n i x hi hlt
  have hw:=zd (i:=i) (by omega)
  simp only [zh7,ztz,z69,z6m,hw1,hlt,y9,y7,yg,yd,hi,y6,hw]
 ·intro n
  simp [zh7]
structure MatP (m:Mat) (R C:Nat):Prop where
 rows:m.2.1=(R:Int)
 cols:m.2.2.1=(C:Int)
 r32:R≤32
 c32:C≤32
 len:m.2.2.2.length=R*C
 prime:2≤m.1∧m.1≤251
 cells:∀ x∈m.2.2.2,0≤x∧x≤250
 lt:∀ x∈m.2.2.2,x<m.1
theorem z1rg {k:Nat} (hk:KK≤k) {m:Mat} (hv:m.2.2.2.length≤1048576):∃ b,zgg k m=some b∧zjw k m=some b∧(b=true→∃ R C,MatP m R C):=by
 obtain ⟨b,h1,h2,h3⟩:=z18m hk m.1
 unfold zgg zjw zpo z8a
 rw [h1,h2]
 cases b
 ·exact ⟨false,by simp,by simp,fun h=>by cases h⟩
 ·have hp:=h3 rfl
  simp only [y6,y7,z7g,z6m,zjz hk hv _ (show -1000000≤m.1∧m.1≤1000000 by omega),zum hk hv (show -1000000≤m.1∧m.1≤1000000 by omega)]
  by_cases c1:0≤m.2.1∧m.2.1≤32
  ·by_cases c2:0≤m.2.2.1∧m.2.2.1≤32
   ·rw [yc c1,yc c2,y4 rfl,y4 rfl,y4 rfl,y4 rfl]
    obtain ⟨R,hR⟩:=y4j c1.1
    obtain ⟨C,hC⟩:=y4j c2.1
    have hRC:R*C≤32*32:=y1p (by omega) (by omega)
    have hw:z6 (m.2.1*m.2.2.1)=((R*C:Nat):Int):=by
     rw [hR,hC,← y3s]
     exact ze (by omega) (by omega)
    rw [hw]
    refine ⟨m.2.2.2.all (fun x=>decide (0≤x∧x≤m.1-1))&&decide ((m.2.2.2.length:Int)=((R*C:Nat):Int)),rfl,?_,fun h=>?_⟩
    ·by_cases c3:(m.2.2.2.length:Int)=((R*C:Nat):Int)
     ·rw [yc c3,y4 rfl,y4w]
     ·rw [yb c3,y5 (by simp),y50]
    ·simp only [yi,y16,y18] at h
     exact ⟨R,C,hR,hC,by omega,by omega,by omega,hp,fun x hx=>by have:=h.1 x hx; omega,fun x hx=>by have:=h.1 x hx; omega⟩
   ·exact ⟨false,by simp [c1,c2],by simp [c1,c2],fun h=>by cases h⟩
  ·exact ⟨false,by simp [c1],by simp [c1],fun h=>by cases h⟩
def z52 (cells:List Int) (C r:Nat):List Int:=(cells.drop (r*C)).take C
theorem zhl {cells:List Int} {R C r:Nat} (hl:cells.length=R*C) (hr:r<R):(z52 cells C r).length=C:=by
 unfold z52
 rw [y1d,y22,hl]
 have:(r+1)*C≤R*C:=y24 _ hr
 rw [y2d] at this
 omega
theorem z18n {cells:List Int} {C r c:Nat} (hc:c<C):(z52 cells C r)[c]?=cells[r*C+c]?:=by
 unfold z52
 rw [y1o hc,y3c]
theorem z18o {a:List Int} (ha:a.length≤1048576):zj9 a=some a:=by
 have hL:=z1r
 unfold zj9
 have h:(([]:List Unit).length+a.length)*8≤LIM:=by simp only [y2b]; omega
 rw [y4 h]
 cases a with
 | nil=>simp [zi0]
 | cons x l=>simp
theorem z18p {k:Nat} (hk:KK≤k) {m:Mat} {R C:Nat} (h:MatP m R C):zj7 k m=some ((List.range R).map (z52 m.2.2.2 C)):=by
 have hK:=zf
 have hLI:=z1r
 have h32:=h.c32
 have hr32:=h.r32
 unfold zj7
 have:=z2b (α:=Nat) (A:=List (List Int)) (L:=fun n i q=>zha k n m.2.1 i q m (fun q_4=>some q_4)) (I:=fun pre q=>q=pre.map (z52 m.2.2.2 C)) (G:=fun _ _=>some ((List.range R).map (z52 m.2.2.2 C))) (List.range R) ?_ ?_ k (by rw [y17]; omega) [] rfl
 ·exact this
 ·intro n pre x post q hx hq ih hg hlt
  rw [y17] at hlt
  have hr:pre.length<R:=by omega
  have hxe:x=pre.length:=by rw [List.getElem?_range hr] at hg; simpa using hg.symm
  have hw:=zd (i:=pre.length) (by omega)
  have hlt':(pre.length:Int)<m.2.1:=by rw [h.rows]; omega
  have h1:(pre.length+1)*C≤R*C:=y24 _ hr
  have h2:R*C≤32*32:=y1p hr32 h32
  have h3:(pre.length+1)*C=pre.length*C+C:=y2d _ _
  have hm1:z6 ((pre.length:Int)*m.2.2.1)=((pre.length*C:Nat):Int):=by rw [h.cols,← y3s]; exact ze (by omega) (by omega)
  have hm2:z6 (((pre.length+1:Nat):Int)*m.2.2.1)=(((pre.length+1)*C:Nat):Int):=by rw [h.cols,← y3s]; exact ze (by omega) (by omega)
  have hrow:z8c m (pre.length:Int)=some (z52 m.2.2.2 C pre.length):=by
   unfold z8c
   rw [hm1,hw,hm2,y4 ⟨by omega,by omega,by rw [h.len]; omega⟩,yd,yd,show (pre.length+1)*C-pre.length*C=C by omega]
   rfl
  have hrl:=zhl h.len hr
  have hql:q.length=pre.length:=by rw [hq,ym]
  have b1:(q.length+1)*24≤LIM:=by omega
  subst hxe
  simp only [zha,hlt',y9,y7,hrow,y6,z18o (show (z52 m.2.2.2 C pre.length).length≤1048576 by omega),yy,b1,hw]
  exact ih _ (by rw [hq]; simp)
 ·intro n q hq
  have:¬ ((List.range R).length:Int)<m.2.1:=by rw [h.rows,y17]; omega
  subst hq
  simp only [zha,this,yf,ya,y8]
def z17 (C:Nat) (f:Nat→Nat→Int) (i:Nat):List Int:=(List.range C).map (f i)
def z1s (R C:Nat) (f:Nat→Nat→Int):List (List Int):=(List.range R).map (z17 C f)
def z11 (R C:Nat) (f:Nat→Nat→Int):List Int:=(List.range (R*C)).map fun (t:Nat)=>f (t / C) (t % C)
theorem zqb (C:Nat) (f:Nat→Nat→Int) (i:Nat):(z17 C f i).length=C:=by simp [z17]
theorem z8f (R C:Nat) (f:Nat→Nat→Int):(z1s R C f).length=R:=by simp [z1s]
theorem z4h (R C:Nat) (f:Nat→Nat→Int):(z11 R C f).length=R*C:=by simp [z11]
theorem zdp {C:Nat} (f:Nat→Nat→Int) (i:Nat) {j:Nat} (h:j<C):(z17 C f i)[j]?=some (f i j):=by unfold z17; rw [List.getElem?_map,List.getElem?_range h]; rfl
theorem z6n {R C:Nat} (f:Nat→Nat→Int) {i:Nat} (h:i<R):(z1s R C f)[i]?=some (z17 C f i):=by unfold z1s; rw [List.getElem?_map,List.getElem?_range h]; rfl
theorem ixl {R C i j:Nat} (hi:i<R) (hj:j<C):i*C+j<R*C:=by
 have:(i+1)*C≤R*C:=y24 _ hi
 rw [y2d] at this
 omega
theorem dm {C i j:Nat} (hj:j<C):(i*C+j) / C=i∧(i*C+j) % C=j:=by
 constructor
 ·rw [y3z,Nat.mul_add_div (by omega),Nat.div_eq_of_lt hj,y2q]
 ·rw [y3z,Nat.mul_add_mod,Nat.mod_eq_of_lt hj]
theorem z7h {R C:Nat} (f:Nat→Nat→Int) {i j:Nat} (hi:i<R) (hj:j<C):(z11 R C f)[i*C+j]?=some (f i j):=by
 unfold z11
 rw [yr,y21 (ixl hi hj)]
 have:=dm (i:=i) hj
 rw [y1y,this.1,this.2]
theorem zk0 {C:Nat} {f g:Nat→Nat→Int} {i i':Nat} (h:∀ j,j<C→f i j=g i' j):z17 C f i=z17 C g i':=y3e fun j hj=>h j (y19.1 hj)
theorem zun {R C:Nat} {f g:Nat→Nat→Int} (h:∀ i j,i<R→j<C→f i j=g i j):z1s R C f=z1s R C g:=y3e fun i hi=>zk0 fun j hj=>h i j (y19.1 hi) hj
theorem zdq {R C:Nat} {f g:Nat→Nat→Int} (h:∀ i j,i<R→j<C→f i j=g i j):z11 R C f=z11 R C g:=y3e fun t ht=>by
 have ht:=y19.1 ht
 have hC:0<C:=by
  rcases y4a C with h0 | h0
  ·subst h0; simp at ht
  ·exact h0
 exact h _ _ (Nat.div_lt_of_lt_mul (by rw [y3z]; exact ht)) (y4q _ hC)
theorem zqc {R C:Nat} (f g:Nat→Nat→Int) {i:Nat} (i':Nat) (hi:i<R):(z1s R C f).set i (z17 C g i')=z1s R C (fun x j=>if x=i then g i' j else f x j):=by
 refine y35 fun x=>?_
 rw [y3q,z8f]
 by_cases hx:x<R
 ·rw [z6n _ hx,z6n _ hx]
  by_cases e:i=x
  ·subst e
   rw [y4 rfl,y4 hx]
   congr 1
   exact zk0 fun j _=>by rw [y4 rfl]
  ·rw [y5 e]
   congr 1
   exact zk0 fun j _=>by rw [y5 (fun h=>e h.symm)]
 ·rw [y2r (by rw [z8f]; omega),y2r (by rw [z8f]; omega),y5 (by omega)]
def z8g (f:Nat→Nat→Int) (i j:Nat) (v:Int):Nat→Nat→Int:=fun x y=>if x=i∧y=j then v else f x y
theorem zqd {R C:Nat} (f:Nat→Nat→Int) {i j:Nat} (v:Int) (hi:i<R) (hj:j<C):(z11 R C f).set (i*C+j) v=z11 R C (z8g f i j v):=by
 refine y35 fun t=>?_
 rw [y3q,z4h]
 by_cases ht:t<R*C
 ·unfold z11
  rw [yr,yr,y21 ht]
  simp only [y1y]
  by_cases e:i*C+j=t
  ·subst e
   have:=dm (i:=i) hj
   rw [y4 rfl,y4 ht,this.1,this.2]
   unfold z8g
   rw [y4 ⟨rfl,rfl⟩]
  ·rw [y5 e]
   unfold z8g
   rw [y5 (fun h=>e (by rw [← h.1,← h.2,y3z]; exact y5d t C))]
 ·rw [y2r (by rw [z4h]; omega),y2r (by rw [z4h]; omega),y5 (by have:=ixl hi hj; omega)]
def z1l (f:Nat→Nat→Int) (c:Nat):Nat→Nat→Nat
 | 0,at_=>at_
 | d+1,at_=>if f at_ c=0 then z1l f c d (at_+1) else at_
theorem zqe (f:Nat→Nat→Int) (c:Nat):∀ d at_,at_≤z1l f c d at_∧z1l f c d at_≤at_+d
 | 0,at_=>⟨yx _,yx _⟩
 | d+1,at_=>by
  have:=zqe f c d (at_+1)
  unfold z1l
  split <;> omega
def swF (f:Nat→Nat→Int) (a b:Nat):Nat→Nat→Int:=fun i j=>if i=a then f b j else if i=b then f a j else f i j
def scF (f:Nat→Nat→Int) (p:Int) (a:Nat) (v:Int):Nat→Nat→Int:=fun i j=>if i=a then Int.tmod (v*f a j) p else f i j
def clF (f:Nat→Nat→Int) (p:Int) (t c n:Nat):Nat→Nat→Int:=fun i j=>if i<n∧i≠t∧f i c≠0 then Int.tmod (f i j+(p-f i c)*f t j) p else f i j
def BdF (p:Int) (f:Nat→Nat→Int):Prop:=∀ i j,0≤f i j∧f i j<p
theorem z18q {p:Int} (hp:2≤p) {x:Int} (hx:0≤x):0≤Int.tmod x p∧Int.tmod x p<p:=by
 rw [y2t hx]
 exact ⟨y3t _ (by omega),y3u _ (by omega)⟩
theorem zk1 {p:Int} {f:Nat→Nat→Int} (h:BdF p f) (a b:Nat):BdF p (swF f a b):=fun i j=>by unfold swF; split; exact h _ _; split; exact h _ _; exact h _ _
theorem zk2 {p:Int} (hp:2≤p) {f:Nat→Nat→Int} (h:BdF p f) (a:Nat) {v:Int} (hv:0≤v):BdF p (scF f p a v):=fun i j=>by
 unfold scF
 split
 ·exact z18q hp (y3k hv (h a j).1)
 ·exact h i j
theorem z1rh {p:Int} (hp:2≤p) {f:Nat→Nat→Int} (h:BdF p f) (t c n:Nat):BdF p (clF f p t c n):=fun i j=>by
 unfold clF
 split
 ·have h1:=h i j
  have h2:=h i c
  have h3:=h t j
  exact z18q hp (Int.add_nonneg h1.1 (y3k (by omega) h3.1))
 ·exact h i j
theorem z18r {p:Int} {f:Nat→Nat→Int} (t c n j:Nat):clF f p t c n t j=f t j:=by unfold clF; rw [if_neg (fun h=>h.2.1 rfl)]
theorem zuo {p:Int} {f:Nat→Nat→Int} (t c n j:Nat):clF f p t c n n j=f n j:=by unfold clF; rw [if_neg (fun h=>Nat.lt_irrefl _ h.1)]
theorem zqf {p:Int} {f:Nat→Nat→Int} {t c n:Nat} (h:n=t∨f n c=0):clF f p t c (n+1)=clF f p t c n:=by
 funext i j
 unfold clF
 by_cases e:i<n∧i≠t∧f i c≠0
 ·rw [y4 e,y4 ⟨by omega,e.2⟩]
 ·rw [y5 e,y5]
  rintro ⟨h1,h2,h3⟩
  have:i=n:=by
   rcases y26 i n with h4 | h4
   ·exact absurd ⟨h4,h2,h3⟩ e
   ·omega
  subst this
  rcases h with h | h
  ·exact h2 h
  ·exact h3 h
theorem z18s {p:Int} {f:Nat→Nat→Int} {t c n:Nat} (h1:n≠t) (h2:f n c≠0):(fun i j=>if i=n then Int.tmod (f n j+(p-f n c)*f t j) p else clF f p t c n i j)=clF f p t c (n+1):=by
 funext i j
 unfold clF
 by_cases e:i=n
 ·subst e; rw [y4 rfl,y4 ⟨by omega,h1,h2⟩]
 ·rw [y5 e]
  by_cases e2:i<n∧i≠t∧f i c≠0
  ·rw [y4 e2,y4 ⟨by omega,e2.2⟩]
  ·rw [y5 e2,y5 (fun h=>e2 ⟨by omega,h.2⟩)]
theorem zba {S R:Type} {L:Nat→Int→S→R} {b:Nat} {st:Nat→S} {e:R} (h1:∀ n (i:Nat),i<b→L (n+1) (i:Int) (st i)=L n ((i+1:Nat):Int) (st (i+1))) (h2:∀ n,L (n+1) (b:Int) (st b)=e):∀ {n:Nat},b<n→L n 0 (st 0)=e:=by
 have key:∀ (d i n:Nat),i+d=b→d<n→L n (i:Int) (st i)=e:=by
  intro d
  induction d with
  | zero =>
   intro i n hi hn
   obtain ⟨n,rfl⟩:∃ m,n=m+1:=⟨n-1,by omega⟩
   have:i=b:=by omega
   subst this
   exact h2 n
  | succ d ih =>
   intro i n hi hn
   obtain ⟨n,rfl⟩:∃ m,n=m+1:=⟨n-1,by omega⟩
   rw [h1 n i (by omega)]
   exact ih (i+1) n (by omega) (by omega)
 intro n hn
 exact key b 0 n (by omega) hn
theorem z18t (x y p:Int):(x % p*y) % p=(x*y) % p:=by rw [y44,y5w,← y44]
theorem z18u (x y p:Int):(x*(y % p)) % p=(x*y) % p:=by rw [y44,y5w,← y44]
theorem z18v (x p:Int):∀ m:Nat,((x % p) ^ m) % p=(x ^ m) % p
 | 0=>by simp
 | m+1=>by rw [y3v,y3v,y44,z18v x p m,y5w,← y44]
theorem zdr {x p:Int} (h:0≤x):Int.tmod x p=x % p:=y2t h
def z9q (p a:Int):Int:=(a ^ (p-2).toNat) % p
theorem z9r {p:Int} (hp:2≤p) (a:Int):0≤z9q p a∧z9q p a<p:=⟨y3t _ (by omega),y3u _ (by omega)⟩
theorem zk3 {a p:Int} (hp:2≤p∧p≤251) (h:0≤a∧a<p) {b:Int} (hb:0≤b∧b<p):0≤a*b∧a*b≤62500 :=
 ⟨y3k h.1 hb.1,Int.le_trans (y4k (show a≤250 by omega) (show b≤250 by omega) hb.1 (by omega)) (by omega)⟩
theorem z18w {k:Nat} (hk:KK≤k) {a p:Int} (hp:2≤p∧p≤251) (ha:0≤a∧a<p):zjp k a p=some (z9q p a):=by
 have hK:=zf
 have key:∀ (d n:Nat) (out:Int),d<n→0≤out∧out<p→d≤251→zgr k n a p out (d:Int) (fun out_1=>some out_1)=some ((out*a ^ d) % p):=by
  intro d
  induction d with
  | zero =>
   intro n out hn ho _
   obtain ⟨n,rfl⟩:∃ m,n=m+1:=⟨n-1,by omega⟩
   have:¬ (0:Int)<((0:Nat):Int):=by omega
   simp only [zgr,this,yf,ya,y8]
   rw [show out*a ^ 0=out by simp,y53 ho.1 ho.2]
  | succ d ih =>
   intro n out hn ho hd
   obtain ⟨n,rfl⟩:∃ m,n=m+1:=⟨n-1,by omega⟩
   have h0:(0:Int)<((d+1:Nat):Int):=by omega
   have b:=zk3 hp ho ha
   have hw:z6 (((d+1:Nat):Int)-1)=(d:Int):=by rw [ze (by omega) (by omega)]; omega
   simp only [zgr,h0,y9,y7,hw]
   rw [y5 (by omega),ze (by omega) (by omega),zdr b.1,ih n _ (by omega) ⟨y3t _ (by omega),y3u _ (by omega)⟩ (by omega),z18t,y3v]
   congr 2
   rw [Int.mul_assoc,y4s a]
 unfold zjp
 have h1:z6 (p-2)=((p-2).toNat:Int):=by rw [ze (by omega) (by omega)]; omega
 rw [h1,key _ k 1 (by omega) ⟨by omega,by omega⟩ (by omega)]
 unfold z9q
 rw [Int.one_mul]
theorem z18x {k:Nat} (hk:KK≤k) {a p:Int} (hp:2≤p∧p≤251) (ha:0≤a∧a<p):zj6 k a p=some (z9q p a):=by
 have hK:=zf
 have key:∀ (n:Nat) (f:Nat) (a out:Int),n<f→0≤a∧a<p→0≤out∧out<p→n≤251→zdn k f a (n:Int) p out (fun out_1=>some out_1)=some ((out*a ^ n) % p):=by
  intro n
  induction n using Nat.strongRecOn with
  | _ n ih =>
   intro f a out hf ha ho hn
   obtain ⟨f,rfl⟩:∃ m,f=m+1:=⟨f-1,by omega⟩
   rcases y4a n with h0 | h0
   ·subst h0
    have:¬ (0:Int)<((0:Nat):Int):=by omega
    simp only [zdn,this,yf,ya,y8]
    rw [show out*a ^ 0=out by simp,y53 ho.1 ho.2]
   ·have h1:(0:Int)<(n:Int):=by omega
    have b:=zk3 hp ho ha
    have b2:=zk3 hp ha ha
    have e1:Int.tmod (n:Int) 2=((n % 2:Nat):Int):=by rw [zdr (by omega)]; omega
    have e2:z6 (Int.tdiv (n:Int) 2)=((n / 2:Nat):Int):=by
     rw [y54 (by omega),ze (by omega) (by omega)]; omega
    have hpn:¬ p=0:=by omega
    have sqb:0≤a*a % p∧a*a % p<p:=⟨y3t _ (by omega),y3u _ (by omega)⟩
    have sq:∀ z:Int,(z*(a*a % p) ^ (n / 2)) % p=(z*(a*a) ^ (n / 2)) % p:=fun z=>by
     rw [← z18u,z18v,z18u]
    have pw:(a*a) ^ (n / 2)=a ^ (2*(n / 2)):=by rw [Int.pow_mul]; congr 1; rw [y3v,y3v,Int.pow_zero,Int.one_mul]
    simp only [zdn,h1,y9,y7,e1,e2,hpn,y8]
    rcases Nat.mod_two_eq_zero_or_one n with h2 | h2
    ·rw [h2,yb (by omega),y5 (by simp),ze (by omega) (by omega),zdr b2.1,ih (n / 2) (by omega) f _ _ (by omega) sqb ho (by omega),sq,pw,show 2*(n / 2)=n by omega]
    ·have ob:0≤out*a % p∧out*a % p<p:=⟨y3t _ (by omega),y3u _ (by omega)⟩
     rw [h2,yc (by omega),y4 rfl,ze (by omega) (by omega),ze (by omega) (by omega),zdr b2.1,zdr b.1,ih (n / 2) (by omega) f _ _ (by omega) sqb ob (by omega),sq,z18t,pw]
     congr 2
     rw [Int.mul_assoc]
     congr 1
     conv=>rhs; rw [show n=2*(n / 2)+1 by omega]
     rw [y3v,y4s]
 unfold zj6 zul
 have h1:z6 (p-2)=((p-2).toNat:Int):=by rw [ze (by omega) (by omega)]; omega
 rw [h1,key _ k a 1 (by omega) ha ⟨by omega,by omega⟩ (by omega)]
 unfold z9q
 rw [Int.one_mul]
 rfl
theorem z9s {i C j:Nat} (hi:i≤64) (hC:C≤64) (hj:j≤64):z6 (z6 ((i:Int)*(C:Int))+(j:Int))=((i*C+j:Nat):Int):=by
 have:i*C≤64*64:=y1p hi hC
 rw [← y3s,ze (x:=((i*C:Nat):Int)) (by omega) (by omega),ze (by omega) (by omega)]
 omega
theorem z18y {k:Nat} (hk:KK≤k) {p v:Int} (hp:2≤p∧p≤251) (hv:0≤v∧v≤251) {C:Nat} (hC:C≤64) {g h:Nat→Int} (hg:∀ j,0≤g j∧g j<p) (hh:∀ j,0≤h j∧h j<p) :
  zaw k ((List.range C).map g) ((List.range C).map h) v p=some ((List.range C).map fun j=>Int.tmod (g j+v*h j) p):=by
 have hK:=zf
 have hL:=z1r
 unfold zaw
 rw [show (List.length ((List.range C).map g):Int)=(C:Int) by simp]
 refine zba (S:=List Int) (L:=fun n i q=>zhk k n ((List.range C).map g) ((List.range C).map h) v p (C:Int) i q (fun q_4=>some q_4)) (b:=C) (st:=fun i=>(List.range i).map fun j=>Int.tmod (g j+v*h j) p) ?_ ?_ (n:=k) (by omega)
 ·intro n i hi
  have hlt:(i:Int)<(C:Int):=by omega
  have hw:=zd (i:=i) (by omega)
  have hgi:=hg i
  have hhi:=hh i
  have h1:v*h i≤251*250:=y4k hv.2 (show h i≤250 by omega) hhi.1 (by omega)
  have h2:0≤v*h i:=y3k hv.1 hhi.1
  have e1:z6 (v*h i)=v*h i:=ze (by omega) (by omega)
  have e2:z6 (g i+v*h i)=g i+v*h i:=ze (by omega) (by omega)
  have g1:((List.range C).map g)[i]?=some (g i):=by rw [yr,y21 hi]; rfl
  have g2:((List.range C).map h)[i]?=some (h i):=by rw [yr,y21 hi]; rfl
  have hpn:¬ p=0:=by omega
  have hl:((List.range i).length+1)*8≤LIM:=by rw [y17]; omega
  simp only [zhk,hlt,y9,y7,yg,yd,g1,g2,y6,e1,e2,hpn,y8,ym,yy,hl,hw]
  rw [y30,y1z]
  rfl
 ·intro n
  simp only [zhk,yp,yf,ya,y8]
theorem z1ri {k:Nat} {m:Mat} {R C c:Nat} (hm:m.2.1=(R:Int)) (hR:R≤64) (hC:C≤64) (hc:c<C) (f:Nat→Nat→Int) (p det:Int) (row:Nat) (q5 q6:List Int) (u1 u2 u3 u4 u5 u6:Int) (E:(Int×Int×Int×List Int)→Int→Int→Int→Int→Int→Int→(List Int)→(List Int)→(List Int)→Int→Int→Int→Int→Int→Int→Option ((Int×Int×Int×List Int)×List Int×Int)) :
  ∀ (d at_ n:Nat),at_+d=R→d<n→zgs k n m p (C:Int) det (row:Int) (c:Int) (at_:Int) q5 q6 (z11 R C f) u1 u2 u3 u4 u5 u6 E=E m p (C:Int) det (row:Int) (c:Int) (z1l f c d at_:Int) q5 q6 (z11 R C f) u1 u2 u3 u4 u5 u6:=by
 intro d
 induction d with
 | zero =>
  intro at_ n ha hn
  obtain ⟨n,rfl⟩:∃ m,n=m+1:=⟨n-1,by omega⟩
  have:¬ (at_:Int)<m.2.1:=by rw [hm]; omega
  simp only [zgs,this,yf,ya,y8,z1l]
 | succ d ih =>
  intro at_ n ha hn
  obtain ⟨n,rfl⟩:∃ m,n=m+1:=⟨n-1,by omega⟩
  have hlt:(at_:Int)<m.2.1:=by rw [hm]; omega
  have hi:at_<R:=by omega
  have hw:=zd (i:=at_) (by omega)
  have hx:=z9s (i:=at_) (C:=C) (j:=c) (by omega) hC (by omega)
  have hl:=ixl hi hc
  simp only [zgs,hlt,y9,y7,hx,yg,yd,z4h,hl,yw,z7h f hi hc,y6,hw]
  by_cases h0:f at_ c=0
  ·rw [yc h0,y4 rfl,ih (at_+1) n (by omega) (by omega)]
   simp only [z1l,h0,y7]
  ·rw [yb h0,y5 (by simp)]
   simp only [z1l,h0,y8]
def z34 (f g:Nat→Nat→Int) (n:Nat):Nat→Nat→Int:=fun i j=>if j<n then g i j else f i j
theorem z1rj {f:Nat→Nat→Int} {a b n:Nat} (h:a≠b):z8g (z8g (z34 f (swF f a b) n) b n (f a n)) a n (f b n)=z34 f (swF f a b) (n+1):=by
 funext i j
 unfold z8g z34 swF
 by_cases hj:j=n
 ·subst hj
  rw [y4 (y3y _)]
  by_cases h1:i=a
  ·rw [y4 ⟨h1,rfl⟩,y4 h1]
  ·rw [y5 (fun e=>h1 e.1),y5 h1]
   by_cases h2:i=b
   ·rw [y4 ⟨h2,rfl⟩,y4 h2]
   ·rw [y5 (fun e=>h2 e.1),y5 h2,y5 (y27 _)]
 ·rw [y5 (fun e=>hj e.2),y5 (fun e=>hj e.2)]
  by_cases h1:j<n
  ·rw [y4 h1,y4 (show j<n+1 by omega)]
  ·rw [y5 h1,y5 (show ¬ j<n+1 by omega)]
theorem z1rk {k:Nat} (hk:KK≤k) {m:Mat} {R C c row at_:Nat} (hR:R≤64) (hC:C≤64) (hr:row<R) (ha:at_<R) (hne:row≠at_) (f:Nat→Nat→Int) (p det:Int) (q5 q6:List Int) (u1 u2 u3 u4 u5 u6:Int) (E:(Int×Int×Int×List Int)→Int→Int→Int→Int→Int→(List Int)→(List Int)→(List Int)→Int→Int→Int→Int→Int→Int→Option ((Int×Int×Int×List Int)×List Int×Int)) :
  zd3 k k m p (C:Int) det (row:Int) (c:Int) (at_:Int) 0 q5 q6 (z11 R C f) u1 u2 u3 u4 u5 u6 E=E m p (C:Int) det (row:Int) (c:Int) q5 q6 (z11 R C (swF f row at_)) u1 u2 u3 u4 u5 u6:=by
 have hK:=zf
 have e0:z11 R C f=z11 R C (z34 f (swF f row at_) 0):=zdq fun i j _ _=>by unfold z34; rw [if_neg (Nat.not_lt_zero _)]
 have e1:z11 R C (swF f row at_)=z11 R C (z34 f (swF f row at_) C):=zdq fun i j _ hj=>by unfold z34; rw [if_pos hj]
 rw [e0,e1]
 refine zba (S:=List Int) (L:=fun n j q=>zd3 k n m p (C:Int) det (row:Int) (c:Int) (at_:Int) j q5 q6 q u1 u2 u3 u4 u5 u6 E) (b:=C) (st:=fun j=>z11 R C (z34 f (swF f row at_) j)) ?_ ?_ (n:=k) (by omega)
 ·intro n j hj
  have hlt:(j:Int)<(C:Int):=by omega
  have hw:=zd (i:=j) (by omega)
  have x1:=z9s (i:=at_) (C:=C) (j:=j) (by omega) hC (by omega)
  have x2:=z9s (i:=row) (C:=C) (j:=j) (by omega) hC (by omega)
  have l1:=ixl ha hj
  have l2:=ixl hr hj
  have v1:z34 f (swF f row at_) j at_ j=f at_ j:=by unfold z34; rw [if_neg (Nat.lt_irrefl _)]
  have v2:z34 f (swF f row at_) j row j=f row j:=by unfold z34; rw [if_neg (Nat.lt_irrefl _)]
  simp only [zd3,hlt,y9,y7,x1,x2,yg,yd,z4h,l1,l2,yw,z7h _ ha hj,z7h _ hr hj,v1,v2,y6,hw,zqd _ _ ha hj,zqd _ _ hr hj,z1rj hne]
 ·intro n
  simp only [zd3,yp,yf,ya,y8]
theorem z1rl {f:Nat→Nat→Int} {p:Int} {a n:Nat} {v:Int}:z8g (z34 f (scF f p a v) n) a n (Int.tmod (v*f a n) p)=z34 f (scF f p a v) (n+1):=by
 funext i j
 unfold z8g z34 scF
 by_cases hj:j=n
 ·subst hj
  rw [y4 (y3y _)]
  by_cases h1:i=a
  ·rw [y4 ⟨h1,rfl⟩,y4 h1]
  ·rw [y5 (fun e=>h1 e.1),y5 h1,y5 (y27 _)]
 ·rw [y5 (fun e=>hj e.2)]
  by_cases h1:j<n
  ·rw [y4 h1,y4 (show j<n+1 by omega)]
  ·rw [y5 h1,y5 (show ¬ j<n+1 by omega)]
theorem z18z {k:Nat} (hk:KK≤k) {m:Mat} {R C c row:Nat} (hR:R≤64) (hC:C≤64) (hr:row<R) {f:Nat→Nat→Int} {p:Int} (hp:2≤p∧p≤251) (hf:BdF p f) {v:Int} (hv:0≤v∧v<p) (det:Int) (q5 q6:List Int) (u1 u2 u3 u4 u5 u6:Int) (E:(Int×Int×Int×List Int)→Int→Int→Int→Int→Int→(List Int)→(List Int)→(List Int)→Int→Int→Int→Int→Int→Int→Option ((Int×Int×Int×List Int)×List Int×Int)) :
  zb2 k k m p (C:Int) det (row:Int) (c:Int) v 0 q5 q6 (z11 R C f) u1 u2 u3 u4 u5 u6 E=E m p (C:Int) det (row:Int) (c:Int) q5 q6 (z11 R C (scF f p row v)) u1 u2 u3 u4 u5 u6:=by
 have hK:=zf
 have e0:z11 R C f=z11 R C (z34 f (scF f p row v) 0):=zdq fun i j _ _=>by unfold z34; rw [if_neg (Nat.not_lt_zero _)]
 have e1:z11 R C (scF f p row v)=z11 R C (z34 f (scF f p row v) C):=zdq fun i j _ hj=>by unfold z34; rw [if_pos hj]
 rw [e0,e1]
 refine zba (S:=List Int) (L:=fun n j q=>zb2 k n m p (C:Int) det (row:Int) (c:Int) v j q5 q6 q u1 u2 u3 u4 u5 u6 E) (b:=C) (st:=fun j=>z11 R C (z34 f (scF f p row v) j)) ?_ ?_ (n:=k) (by omega)
 ·intro n j hj
  have hlt:(j:Int)<(C:Int):=by omega
  have hw:=zd (i:=j) (by omega)
  have x2:=z9s (i:=row) (C:=C) (j:=j) (by omega) hC (by omega)
  have l2:=ixl hr hj
  have v2:z34 f (scF f p row v) j row j=f row j:=by unfold z34; rw [if_neg (Nat.lt_irrefl _)]
  have b:=zk3 hp (hf row j) hv
  have e:z6 (f row j*v)=v*f row j:=by rw [ze (by omega) (by omega),y4s]
  have hpn:¬ p=0:=by omega
  simp only [zb2,hlt,y9,y7,x2,yg,yd,z4h,l2,yw,z7h _ hr hj,v2,y6,hw,hpn,y8,e,zqd _ _ hr hj,z1rl]
 ·intro n
  simp only [zb2,yp,yf,ya,y8]
theorem z1rm {p:Int} (hp:2≤p∧p≤251) {x y z:Int} (hx:0≤x∧x<p) (hy:0≤y∧y<p) (hz:0≤z∧z<p):zd1 (z6 (x-(z6 (y*z)))) p=some (Int.tmod (x+(p-y)*z) p):=by
 have b:=zk3 hp hy hz
 have h0:¬ p=0:=by omega
 have e1:(p-y)*z=p*z-y*z:=Int.sub_mul _ _ _
 have b2:0≤(p-y)*z:=y3k (by omega) hz.1
 have w1:z6 (y*z)=y*z:=ze (by omega) (by omega)
 have w2:z6 (x-y*z)=x-y*z:=ze (by omega) (by omega)
 have h1:=Int.tmod_lt_of_pos (x-y*z) (show 0<p by omega)
 have h2:=Int.lt_tmod_of_pos (x-y*z) (show 0<p by omega)
 have w3:z6 (Int.tmod (x-y*z) p+p)=Int.tmod (x-y*z) p+p:=ze (by omega) (by omega)
 unfold zd1
 rw [y5 h0,y5 h0,w1,w2,w3,zdr (by omega),zdr (Int.add_nonneg hx.1 b2)]
 congr 1
 have s1:∀ z:Int,(z+p) % p=z % p:=fun z=>by have:=y55 z p 1; rwa [Int.mul_one] at this
 have e2:x+(p*z-y*z)=x-y*z+p*z:=by omega
 have:=Int.tmod_def (x-y*z) p
 rw [s1,e1,e2,y55,this,show (x-y*z)-p*Int.tdiv (x-y*z) p=(x-y*z)+p*(- Int.tdiv (x-y*z) p) by rw [Int.mul_neg]; omega,y55]
def clR (f:Nat→Nat→Int) (p:Int) (t c i n:Nat):Nat→Nat→Int:=fun x j=>if x=i∧j<n then Int.tmod (f i j+(p-f i c)*f t j) p else clF f p t c i x j
theorem z1rn {f:Nat→Nat→Int} {p:Int} {t c i n:Nat}:z8g (clR f p t c i n) i n (Int.tmod (f i n+(p-f i c)*f t n) p)=clR f p t c i (n+1):=by
 funext x j
 unfold z8g clR
 by_cases h:x=i∧j=n
 ·obtain ⟨rfl,rfl⟩:=h
  rw [y4 ⟨rfl,rfl⟩,y4 ⟨rfl,by omega⟩]
 ·rw [y5 h]
  by_cases h2:x=i∧j<n
  ·rw [y4 h2,y4 ⟨h2.1,by omega⟩]
  ·rw [y5 h2,y5 (fun h3=>by
    rcases y26 j n with h4 | h4
    ·exact h2 ⟨h3.1,h4⟩
    ·exact h ⟨h3.1,by omega⟩)]
theorem z190 {k:Nat} (hk:KK≤k) {m:Mat} {R C c row:Nat} (hm:m.2.1=(R:Int)) (hR:R≤64) (hC:C≤64) (hc:c<C) (hr:row<R) {f:Nat→Nat→Int} {p:Int} (hp:2≤p∧p≤251) (hf:BdF p f) (det:Int) (q5 q6:List Int) (u1 u2 u3 u4 u5 u6:Int) (E:(Int×Int×Int×List Int)→Int→Int→Int→Int→Int→(List Int)→(List Int)→(List Int)→Int→Int→Int→Int→Int→Int→Option ((Int×Int×Int×List Int)×List Int×Int)) :
  z89 k k m p (C:Int) det (row:Int) (c:Int) 0 q5 q6 (z11 R C f) u1 u2 u3 u4 u5 u6 E=E m p (C:Int) det (row:Int) (c:Int) q5 q6 (z11 R C (clF f p row c R)) u1 u2 u3 u4 u5 u6:=by
 have hK:=zf
 have e0:z11 R C f=z11 R C (clF f p row c 0):=zdq fun i j _ _=>by unfold clF; rw [if_neg (fun h=>Nat.not_lt_zero _ h.1)]
 rw [e0]
 have inner:∀ (i:Nat),i<R→i≠row→f i c≠0→∀ (E:(Int×Int×Int×List Int)→Int→Int→Int→Int→Int→Int→(List Int)→(List Int)→(List Int)→Int→Int→Int→Int→Int→Int→Option ((Int×Int×Int×List Int)×List Int×Int)),
   zd2 k k m p (C:Int) det (row:Int) (c:Int) (i:Int) (f i c) 0 q5 q6 (z11 R C (clF f p row c i)) u1 u2 u3 u4 u5 u6 E=E m p (C:Int) det (row:Int) (c:Int) (i:Int) q5 q6 (z11 R C (clF f p row c (i+1))) u1 u2 u3 u4 u5 u6:=by
  intro i hi h1 h2 E
  have e0:z11 R C (clF f p row c i)=z11 R C (clR f p row c i 0):=zdq fun x j _ _=>by unfold clR; rw [if_neg (fun h=>Nat.not_lt_zero _ h.2)]
  have e1:z11 R C (clF f p row c (i+1))=z11 R C (clR f p row c i C):=zdq fun x j _ hj=>by
   have hs:=congrFun (congrFun (z18s (p:=p) h1 h2) x) j
   rw [← hs]
   unfold clR
   by_cases hx:x=i
   ·simp only [hx,y7,hj,yw]
   ·simp only [hx,y8,false_and]
  rw [e0,e1]
  refine zba (S:=List Int) (L:=fun n j q=>zd2 k n m p (C:Int) det (row:Int) (c:Int) (i:Int) (f i c) j q5 q6 q u1 u2 u3 u4 u5 u6 E) (b:=C) (st:=fun j=>z11 R C (clR f p row c i j)) ?_ ?_ (n:=k) (by omega)
  ·intro n j hj
   have hlt:(j:Int)<(C:Int):=by omega
   have hw:=zd (i:=j) (by omega)
   have x1:=z9s (i:=i) (C:=C) (j:=j) (by omega) hC (by omega)
   have x2:=z9s (i:=row) (C:=C) (j:=j) (by omega) hC (by omega)
   have l1:=ixl hi hj
   have l2:=ixl hr hj
   have v1:clR f p row c i j i j=f i j:=by unfold clR; rw [if_neg (fun h=>Nat.lt_irrefl _ h.2),zuo]
   have v2:clR f p row c i j row j=f row j:=by unfold clR; rw [if_neg (fun h=>h1 h.1.symm),z18r]
   simp only [zd2,hlt,y9,y7,x1,x2,yg,yd,z4h,l1,l2,yw,z7h _ hi hj,z7h _ hr hj,v1,v2,y6,hw,z1rm hp (hf i j) (hf i c) (hf row j),zqd _ _ hi hj,z1rn]
  ·intro n
   simp only [zd2,yp,yf,ya,y8]
 refine zba (S:=List Int) (L:=fun n i q=>z89 k n m p (C:Int) det (row:Int) (c:Int) i q5 q6 q u1 u2 u3 u4 u5 u6 E) (b:=R) (st:=fun i=>z11 R C (clF f p row c i)) ?_ ?_ (n:=k) (by omega)
 ·intro n i hi
  have hlt:(i:Int)<m.2.1:=by rw [hm]; omega
  have hw:=zd (i:=i) (by omega)
  have x1:=z9s (i:=i) (C:=C) (j:=c) (by omega) hC (by omega)
  have l1:=ixl hi hc
  simp only [z89,hlt,y9,y7,x1,yg,yd,z4h,l1,yw,z7h _ hi hc,zuo,y6,hw]
  by_cases h1:i=row
  ·rw [yc (by omega),y4 rfl,zqf (.inl h1)]
  ·rw [yb (by omega),y5 (by simp)]
   by_cases h2:f i c=0
   ·rw [yc h2,y4 rfl,zqf (.inr h2)]
   ·rw [yb h2,y5 (by simp),inner i hi h1 h2]
    simp only [hw]
 ·intro n
  have:¬ (R:Int)<m.2.1:=by rw [hm]; omega
  simp only [z89,this,yf,ya,y8]
def z6o (p:Int) (R:Nat) (f:Nat→Nat→Int) (c t:Nat):Nat→Nat→Int:=clF (scF (swF f t (z1l f c (R-t) t)) p t (z9q p (f (z1l f c (R-t) t) c))) p t c R
def gz (p:Int) (R:Nat):Nat→Nat→(Nat→Nat→Int)→List Int→(Nat→Nat→Int)×List Int
 | 0,_,f,P=>(f,P)
 | d+1,c,f,P=>if z1l f c (R-P.length) P.length=R then gz p R d (c+1) f P else gz p R d (c+1) (z6o p R f c P.length) (P++[(c:Int)])
theorem z191 (p:Int) (R:Nat):∀ d c f P,P.length=R→gz p R d c f P=(f,P)
 | 0,_,_,_,_=>rfl
 | d+1,c,f,P,h=>by
  unfold gz
  rw [h,y45,y4 (show z1l f c 0 R=R from rfl)]
  exact z191 p R d (c+1) f P h
theorem z192 {p:Int} (hp:2≤p∧p≤251) {R:Nat} {f:Nat→Nat→Int} (h:BdF p f) (c t:Nat):BdF p (z6o p R f c t):=z1rh hp.1 (zk2 hp.1 (zk1 h _ _) _ (z9r hp.1 _).1) _ _ _
theorem z193 (f:Nat→Nat→Int) (t:Nat):swF f t t=f:=by
 funext i j
 unfold swF
 by_cases h:i=t
 ·rw [y4 h,h]
 ·rw [y5 h,y5 h]
theorem z1ro {k:Nat} (hk:KK≤k) {m:Mat} {R C:Nat} (hm:m.2.1=(R:Int)) (hR:R≤64) (hC:C≤64) {p:Int} (hp:2≤p∧p≤251) (q3:List Int) (u1 u2 u3 u4 u5 u6:Int) (E:Int→(List Int)→(List Int)→(List Int)→Int→Int→Int→Int→Int→Int→Option ((Int×Int×Int×List Int)×List Int×Int)) :
  ∀ (d c n:Nat) (f:Nat→Nat→Int) (P:List Int) (det:Int),c+d=C→d<n→BdF p f→P.length≤R→P.length≤c→∃ det',z9m k n m p (C:Int) det (P.length:Int) (c:Int) P q3 (z11 R C f) u1 u2 u3 u4 u5 u6 E=E det' (gz p R d c f P).2 q3 (z11 R C (gz p R d c f P).1) u1 u2 u3 u4 u5 u6:=by
 have hK:=zf
 have hL:=z1r
 intro d
 induction d with
 | zero =>
  intro c n f P det hc hn hf hP hPc
  obtain ⟨n,rfl⟩:∃ m,n=m+1:=⟨n-1,by omega⟩
  have:¬ (c:Int)<(C:Int):=by omega
  simp only [z9m,this,yf,ya,y8,gz]
  exact ⟨_,rfl⟩
 | succ d ih =>
  intro c n f P det hc hn hf hP hPc
  obtain ⟨n,rfl⟩:∃ m,n=m+1:=⟨n-1,by omega⟩
  have hlt:(c:Int)<(C:Int):=by omega
  have hcC:c<C:=by omega
  simp only [z9m,hlt,y9,y7]
  by_cases hr:P.length<R
  ·have hr':(P.length:Int)<m.2.1:=by rw [hm]; omega
   rw [yc hr',y4 rfl,z1ri hm hR hC hcC f p det P.length P q3 u1 u2 u3 u4 u5 u6 _ (R-P.length) P.length k (by omega) (by omega)]
   have hs:=zqe f c (R-P.length) P.length
   have hw:=zd (i:=c) (by omega)
   have hw2:=zd (i:=P.length) (by omega)
   by_cases ha:z1l f c (R-P.length) P.length=R
   ·rw [yc (by rw [hm,ha]),y4 rfl,hw]
    obtain ⟨det',h⟩:=ih (c+1) n f P det (by omega) (by omega) hf hP (by omega)
    refine ⟨det',?_⟩
    rw [h]
    simp only [gz,ha,y7]
   ·rw [yb (by rw [hm]; omega),y5 (by simp)]
    have haR:z1l f c (R-P.length) P.length<R:=by omega
    have hx:=z9s (i:=P.length) (C:=C) (j:=c) (by omega) hC (by omega)
    have hl:=ixl hr hcC
    have hg:(gz p R (d+1) c f P)=gz p R d (c+1) (z6o p R f c P.length) (P++[(c:Int)]):=by simp only [gz,ha,y8]
    have hbl:(P.length+1)*8≤LIM:=by omega
    have hpn:¬ p=0:=by omega
    have hfa:=hf (z1l f c (R-P.length) P.length) c
    have hPl:((P++[(c:Int)]).length:Int)=((P.length+1:Nat):Int):=by rw [yk]; rfl
    have fin:∀ det,∃ det',z9m k n m p (C:Int) det ((P.length+1:Nat):Int) ((c+1:Nat):Int) (P++[(c:Int)]) q3 (z11 R C (z6o p R f c P.length)) u1 u2 u3 u4 u5 u6 E=E det' (gz p R (d+1) c f P).2 q3 (z11 R C (gz p R (d+1) c f P).1) u1 u2 u3 u4 u5 u6:=fun det=>by
     obtain ⟨det',h⟩:=ih (c+1) n (z6o p R f c P.length) (P++[(c:Int)]) det (by omega) (by omega) (z192 hp hf c _) (by simp; omega) (by simp; omega)
     rw [hPl] at h
     exact ⟨det',by rw [h,hg]⟩
    by_cases hat:z1l f c (R-P.length) P.length=P.length
    ·rw [yc (by omega),y10,y5 (by simp)]
     rw [hat] at hfa
     simp only [hx,yg,yd,z4h,hl,yw,y7,z7h f hr hcC,y6,hpn,y8,z18w hk hp hfa]
     rw [z18z hk hR hC hr hp hf (z9r hp.1 _),z190 hk hm hR hC hcC hr hp (zk2 hp.1 hf _ (z9r hp.1 _).1)]
     simp only [yy,hbl,y7,hw,hw2]
     have he:clF (scF f p P.length (z9q p (f P.length c))) p P.length c R=z6o p R f c P.length:=by unfold z6o; rw [hat,z193]
     rw [he]
     exact fin _
    ·rw [yb (by omega),y2m,y4 rfl]
     have hv:swF f P.length (z1l f c (R-P.length) P.length) P.length c=f (z1l f c (R-P.length) P.length) c:=by unfold swF; rw [if_pos rfl]
     rw [z1rk hk hR hC hr haR (fun h=>hat h.symm)]
     simp only [hx,yg,yd,z4h,hl,yw,y7,z7h _ hr hcC,hv,y6,hpn,y8,z18w hk hp hfa]
     rw [z18z hk hR hC hr hp (zk1 hf _ _) (z9r hp.1 _),z190 hk hm hR hC hcC hr hp (zk2 hp.1 (zk1 hf _ _) _ (z9r hp.1 _).1)]
     simp only [yy,hbl,y7,hw,hw2]
     exact fin _
  ·have hr':¬ (P.length:Int)<m.2.1:=by rw [hm]; omega
   rw [yb hr',y5 (by simp),z191 p R (d+1) c f P (by omega)]
   exact ⟨_,rfl⟩
theorem z1rp {k:Nat} (hk:KK≤k) {R C c t:Nat} (hR:R≤64) (hc:c<C) (ht:t≤R) (f:Nat→Nat→Int) :
  zn8 k (((z1s R C f).drop t).take (R-t)) (c:Int)=some (if z1l f c (R-t) t=R then -1 else (z1l f c (R-t) t:Int)-(t:Int)):=by
 have hK:=zf
 have hlen:(((z1s R C f).drop t).take (R-t)).length=R-t:=by rw [y1d,y22,z8f]; omega
 unfold zn8
 rw [hlen]
 have key:∀ (d i n:Nat),i+d=R-t→d<n→zhj k n (((z1s R C f).drop t).take (R-t)) (c:Int) ((R-t:Nat):Int) (i:Int) (some (-1))=some (if z1l f c d (t+i)=R then -1 else (z1l f c d (t+i):Int)-(t:Int)):=by
  intro d
  induction d with
  | zero =>
   intro i n hi hn
   obtain ⟨n,rfl⟩:∃ m,n=m+1:=⟨n-1,by omega⟩
   have:¬ (i:Int)<((R-t:Nat):Int):=by omega
   simp only [zhj,this,yf,ya,y8]
   rw [y4 (show z1l f c 0 (t+i)=R by show t+i=R; omega)]
  | succ d ih =>
   intro i n hi hn
   obtain ⟨n,rfl⟩:∃ m,n=m+1:=⟨n-1,by omega⟩
   have hlt:(i:Int)<((R-t:Nat):Int):=by omega
   have hw:=zd (i:=i) (by omega)
   have hg:(((z1s R C f).drop t).take (R-t))[i]?=some (z17 C f (t+i)):=by
    rw [y1o (by omega),y3c,z6n f (by omega)]
   simp only [zhj,zuk,hlt,y9,y7,yg,yd,hg,y6,zdp f _ hc,hw]
   by_cases h0:f (t+i) c=0
   ·rw [yc h0,y10,y5 (by simp),ih (i+1) n (by omega) (by omega),show t+(i+1)=t+i+1 by omega]
    simp only [z1l,h0,y7]
   ·rw [yb h0,y2m,y4 rfl]
    simp only [z1l,h0,y8]
    rw [y5 (by omega)]
    congr 1
    omega
 exact key (R-t) 0 k (by omega) (by omega)
theorem z1rq {R C t a:Nat} (f:Nat→Nat→Int) (ht:t<R) (ha:a<R) (h:a≠t):((z1s R C f).set t (z17 C f a)).set a (z17 C f t)=z1s R C (swF f t a):=by
 rw [zqc f f a ht,zqc _ f t ha]
 refine zun fun i j _ _=>?_
 unfold swF
 by_cases h1:i=a
 ·rw [y4 h1,y5 (fun e=>h (by omega)),y4 h1]
 ·rw [y5 h1]
  by_cases h2:i=t
  ·rw [y4 h2,y4 h2]
  ·rw [y5 h2,y5 h2,y5 h1]
theorem z194 {k:Nat} (hk:KK≤k) {C t:Nat} (hC:C≤64) {f:Nat→Nat→Int} {p v:Int} (hp:2≤p∧p≤251) (hf:BdF p f) (hv:0≤v∧v<p):zaw k (List.replicate C 0) (z17 C f t) v p=some (z17 C (scF f p t v) t):=by
 have e:List.replicate C (0:Int)=(List.range C).map (fun _=>(0:Int)):=by rw [List.map_const',y17]
 rw [e]
 unfold z17
 rw [z18y hk hp ⟨hv.1,by omega⟩ hC (g:=fun _=>0) (h:=f t) (fun _=>⟨by omega,by omega⟩) (fun j=>hf t j)]
 congr 1
 refine y3e fun j _=>?_
 unfold scF
 rw [y4 rfl,Int.zero_add]
theorem z195 {R C t:Nat} {f:Nat→Nat→Int} {p v:Int} (ht:t<R):(z1s R C f).set t (z17 C (scF f p t v) t)=z1s R C (scF f p t v):=by
 rw [zqc f _ t ht]
 refine zun fun i j _ _=>?_
 by_cases h:i=t
 ·rw [y4 h,h]
 ·rw [if_neg h]; unfold scF; rw [if_neg h]
theorem z196 {k:Nat} (hk:KK≤k) {R C c t:Nat} (hR:R≤64) (hC:C≤64) (hc:c<C) (ht:t<R) {f:Nat→Nat→Int} {p:Int} (hp:2≤p∧p≤251) (hf:BdF p f) (det x16 x17 cc:Int) (q20:List Int) (E:Int→Int→Int→Int→Int→(List (List Int))→(List Int)→Int→Option ((((Unit×(Int×Unit))×Unit)×((List (List Int))×(List Int)×Unit)×Unit))) :
  z84 k k cc p det (t:Int) x16 x17 (R:Int) 0 (z1s R C f) q20 (c:Int) E=E cc p det x16 x17 (z1s R C (clF f p t c R)) q20 (c:Int):=by
 have hK:=zf
 have e0:z1s R C f=z1s R C (clF f p t c 0):=zun fun i j _ _=>by unfold clF; rw [if_neg (fun h=>Nat.not_lt_zero _ h.1)]
 rw [e0]
 refine zba (S:=List (List Int)) (L:=fun n i q=>z84 k n cc p det (t:Int) x16 x17 (R:Int) i q q20 (c:Int) E) (b:=R) (st:=fun i=>z1s R C (clF f p t c i)) ?_ ?_ (n:=k) (by omega)
 ·intro n i hi
  have hlt:(i:Int)<(R:Int):=by omega
  have hw:=zd (i:=i) (by omega)
  have r1:z17 C (clF f p t c i) i=z17 C f i:=zk0 fun j _=>zuo _ _ _ _
  have r2:z17 C (clF f p t c i) t=z17 C f t:=zk0 fun j _=>z18r _ _ _ _
  have hfi:=hf i c
  have hwp:z6 (p-f i c)=p-f i c:=ze (by omega) (by omega)
  simp only [z84,hlt,y9,y7,yg,yd,z8f,hi,yw,z6n _ hi,z6n _ ht,r1,r2,y6,zdp f i hc,hw,ht]
  by_cases h1:i=t
  ·rw [yc (by omega),y10,y5 (by simp),zqf (.inl h1)]
  ·rw [yb (by omega),y2m,y4 rfl]
   by_cases h2:f i c=0
   ·rw [yc h2,y10,y5 (by simp),zqf (.inr h2)]
   ·have ha:zaw k (z17 C f i) (z17 C f t) (z6 (p-f i c)) p=some (z17 C (fun _ j=>Int.tmod (f i j+(p-f i c)*f t j) p) i):=by
     rw [hwp]
     exact z18y hk hp ⟨by omega,by omega⟩ hC (g:=f i) (h:=f t) (fun j=>hf i j) (fun j=>hf t j)
    rw [yb h2,y2m,y4 rfl,ha]
    simp only [y6]
    rw [zqc _ _ i hi]
    have hs:=z18s (p:=p) (f:=f) h1 h2
    rw [← hs]
 ·intro n
  simp only [z84,yp,yf,ya,y8]
theorem z1rr (x p:Int) (hp:2≤p):∃ r,zn9 x p=some r:=by
 have:¬ p=0:=by omega
 unfold zn9
 rw [y5 this,y5 this]
 exact ⟨_,rfl⟩
theorem z1rs {k:Nat} (hk:KK≤k) {R C:Nat} (hR:R≤64) (hC:C≤64) {p:Int} (hp:2≤p∧p≤251) (E:Int→(List (List Int))→(List Int)→Option ((((Unit×(Int×Unit))×Unit)×((List (List Int))×(List Int)×Unit)×Unit))) :
  ∀ (d c n:Nat) (f:Nat→Nat→Int) (P:List Int) (det:Int),c+d=C→d<n→BdF p f→P.length≤R→P.length≤c→∃ det',z9e k n (C:Int) p det (C:Int) (c:Int) (z1s R C f) P E=E det' (z1s R C (gz p R d c f P).1) (gz p R d c f P).2:=by
 have hK:=zf
 have hL:=z1r
 intro d
 induction d with
 | zero =>
  intro c n f P det hc hn hf hP hPc
  obtain ⟨n,rfl⟩:∃ m,n=m+1:=⟨n-1,by omega⟩
  have:¬ (c:Int)<(C:Int):=by omega
  simp only [z9e,this,yf,ya,y8,gz]
  exact ⟨_,rfl⟩
 | succ d ih =>
  intro c n f P det hc hn hf hP hPc
  obtain ⟨n,rfl⟩:∃ m,n=m+1:=⟨n-1,by omega⟩
  have hlt:(c:Int)<(C:Int):=by omega
  have hcC:c<C:=by omega
  have b1:0≤(P.length:Int)∧(P.length:Int)≤(R:Int)∧(R:Int)≤(R:Int):=⟨by omega,by omega,y2g _⟩
  have hs:=zqe f c (R-P.length) P.length
  have hw:=zd (i:=c) (by omega)
  simp only [z9e,hlt,y9,y7,z8f,b1,yw,z1rp hk hR hcC hP f,y6]
  by_cases ha:z1l f c (R-P.length) P.length=R
  ·have hm1:(-1:Int)<0:=by omega
   rw [y4 ha,yc hm1,y4 rfl,hw]
   obtain ⟨det',h⟩:=ih (c+1) n f P 0 (by omega) (by omega) hf hP (by omega)
   refine ⟨det',?_⟩
   rw [h]
   simp only [gz,ha,y7]
  ·have haR:z1l f c (R-P.length) P.length<R:=by omega
   have hr:P.length<R:=by omega
   have hg:(gz p R (d+1) c f P)=gz p R d (c+1) (z6o p R f c P.length) (P++[(c:Int)]):=by simp only [gz,ha,y8]
   have hbl:(P.length+1)*8≤LIM:=by omega
   have hpn:¬ p=0:=by omega
   have hfa:=hf (z1l f c (R-P.length) P.length) c
   have hcols:0≤(C:Int)∧(C:Int)≤(C:Int)∧(C:Int)*8≤LIM:=⟨by omega,y2g _,by omega⟩
   have fin:∀ det,∃ det',z9e k n (C:Int) p det (C:Int) ((c+1:Nat):Int) (z1s R C (z6o p R f c P.length)) (P++[(c:Int)]) E=E det' (z1s R C (gz p R (d+1) c f P).1) (gz p R (d+1) c f P).2:=fun det=>by
    obtain ⟨det',h⟩:=ih (c+1) n (z6o p R f c P.length) (P++[(c:Int)]) det (by omega) (by omega) (z192 hp hf c _) (by simp; omega) (by simp; omega)
    exact ⟨det',by rw [h,hg]⟩
   rw [y5 ha,yb (by omega),y5 (by simp)]
   by_cases hat:z1l f c (R-P.length) P.length=P.length
   ·rw [yb (by omega),y5 (by simp)]
    rw [hat] at hfa
    simp only [yg,yd,z8f,hr,yw,y7,z6n f hr,y6,zdp f _ hcC,hpn,y8,hcols,z18x hk hp hfa,z194 hk hC hp hf (z9r hp.1 _),z195 hr,y20]
    rw [z196 hk hR hC hcC hr hp (zk2 hp.1 hf _ (z9r hp.1 _).1)]
    simp only [yy,hbl,y7,hw]
    have he:clF (scF f p P.length (z9q p (f P.length c))) p P.length c R=z6o p R f c P.length:=by unfold z6o; rw [hat,z193]
    rw [he]
    exact fin _
   ·have hgt:(0:Int)<(z1l f c (R-P.length) P.length:Int)-(P.length:Int):=by omega
    have hix:z6 ((P.length:Int)+((z1l f c (R-P.length) P.length:Int)-(P.length:Int)))=(z1l f c (R-P.length) P.length:Int):=by rw [ze (by omega) (by omega)]; omega
    obtain ⟨r,hred⟩:=z1rr (z6 (0-det)) p hp.1
    have hv:swF f P.length (z1l f c (R-P.length) P.length) P.length c=f (z1l f c (R-P.length) P.length) c:=by unfold swF; rw [if_pos rfl]
    have hset:∀ (x:List Int),((z1s R C f).set P.length x)[z1l f c (R-P.length) P.length]?=some (z17 C f (z1l f c (R-P.length) P.length)):=fun x=>by
     rw [y4d (fun h=>hat h.symm),z6n f haR]
    rw [yc hgt,y4 rfl]
    simp only [hix,yg,yd,z8f,y20,hr,haR,yw,y7,z6n f hr,z6n f haR,y6,hset,hred,z1rq f hr haR hat,z6n _ hr,zdp _ _ hcC,hv,hpn,y8,hcols,z18x hk hp hfa,z194 hk hC hp (zk1 hf _ _) (z9r hp.1 _),z195 hr]
    rw [z196 hk hR hC hcC hr hp (zk2 hp.1 (zk1 hf _ _) _ (z9r hp.1 _).1)]
    simp only [yy,hbl,y7,hw]
    exact fin _
def fM (m:Mat) (C:Nat):Nat→Nat→Int:=fun i j=>m.2.2.2.getD (i*C+j) 0
theorem z197 {m:Mat} {R C:Nat} (h:MatP m R C):(List.range R).map (z52 m.2.2.2 C)=z1s R C (fM m C):=by
 unfold z1s
 refine y3e fun i hi=>?_
 have hi:=y19.1 hi
 refine y35 fun j=>?_
 rcases y26 j C with hj | hj
 ·rw [z18n hj,zdp _ _ hj]
  have hl:i*C+j<m.2.2.2.length:=by rw [h.len]; exact ixl hi hj
  unfold fM
  rw [y15,yh hl]
  rfl
 ·rw [y2r (by rw [zhl h.len hi]; exact hj),y2r (by rw [zqb]; exact hj)]
theorem z1rt {m:Mat} {R C:Nat} (h:MatP m R C) (C':Nat):BdF m.1 (fM m C'):=fun i j=>by
 have hp:=h.prime
 unfold fM
 rw [y15]
 cases hx:m.2.2.2[i*C'+j]? with
 | none=>exact ⟨by simp,by simp; omega⟩
 | some x=>exact ⟨(h.cells x (yl hx)).1,h.lt x (yl hx)⟩
theorem zup (p:Int) (R:Nat):∀ d c f P,P.length≤R→(gz p R d c f P).2.length≤R
 | 0,_,_,_,h=>h
 | d+1,c,f,P,h=>by
  unfold gz
  split
  ·exact zup p R d (c+1) f P h
  ·rename_i hne
   refine zup p R d (c+1) _ _ ?_
   have:=zqe f c (R-P.length) P.length
   rw [yk,yy]
   omega
theorem z1ru {l:List Int} (h:l.length≤1048576):zfi l=some l:=by
 have hL:=z1r
 unfold zfi
 rw [y4 (by simp only [y2b]; omega)]
theorem z1rv {k:Nat} (hk:KK≤k) {R C:Nat} (hR:R≤64) (hC:C≤64) {p:Int} (hp:2≤p∧p≤251) {f:Nat→Nat→Int} (hf:BdF p f):∃ det,zna k (C:Int) p (z1s R C f)=some ((((),(det,())),()),(z1s R C (gz p R C 0 f []).1,(gz p R C 0 f []).2,()),()):=by
 have hK:=zf
 obtain ⟨det',e⟩:=z1rs hk hR hC hp (fun det_42 q_43 q_44=>some ((((),(det_42,())),()),(q_43,q_44,()),())) C 0 k f [] 1 (by omega) (by omega) hf (y2n _) (y2n _)
 exact ⟨det',e⟩
theorem zuq {α:Type} {R:α→α→Prop} (tr:∀ a b c,R a b→R b c→R a c):∀ {l:List α},(∀ (i:Nat) (a b:α),l[i]?=some a→l[i+1]?=some b→R a b)→l.Pairwise R
 | [],_=>List.Pairwise.nil
 | [a],_=>List.pairwise_singleton ..
 | a::b::l,h=>by
  have h0:=h 0 a b rfl rfl
  have ih:=zuq tr (l:=b::l) (fun i x y hx hy=>h (i+1) x y hx hy)
  refine List.Pairwise.cons (fun x hx=>?_) ih
  rcases yz.1 hx with rfl | hx
  ·exact h0
  ·exact tr _ _ _ h0 ((List.pairwise_cons.1 ih).1 x hx)
theorem z198 {α:Type} {R:α→α→Prop} {l:List α} (h:l.Pairwise R) {i:Nat} {a b:α} (ha:l[i]?=some a) (hb:l[i+1]?=some b):R a b:=by
 obtain ⟨h1,rfl⟩:=yo.1 ha
 obtain ⟨h2,rfl⟩:=yo.1 hb
 exact y4l.1 h i (i+1) h1 h2 (by omega)
def z7i {α:Type} (R:α→α→Prop) (l:List α) (i:Nat) (x:α):Prop:=0<i→∀ t,l[i-1]?=some t→R t x
theorem zqg {α:Type} {R:α→α→Prop} (tr:∀ a b c,R a b→R b c→R a c) {l:List α} {m:Nat} (h:∀ j,j<m→∀ x,l[j]?=some x→z7i R l j x):(l.take m).Pairwise R:=by
 refine zuq tr fun i a b ha hb=>?_
 have hi:i+1<m:=by
  have:=(yo.1 hb).1
  rw [y1d] at this; omega
 rw [y1o (by omega)] at ha
 rw [y1o hi] at hb
 exact h (i+1) hi b hb (by omega) a (by simpa using ha)
theorem zur {α:Type} {R:α→α→Prop} {l:List α} (h:l.Pairwise R) {i:Nat} {x:α} (hx:l[i]?=some x):z7i R l i x:=fun h0 t ht=>by
 have e:i=(i-1)+1:=by omega
 rw [e] at hx
 exact z198 h ht hx
theorem z1rw {R:Type} {L:Nat→Int→R} {b:Nat} {p:Nat→Bool} {r e:R}
  (h1:∀ n (i:Nat),i<b→(∀ j,j<i→p j=true)→L (n+1) (i:Int)=if p i=true then L n ((i+1:Nat):Int) else r) (h2:∀ n,L (n+1) (b:Int)=e) {n:Nat} (hn:b<n):L n 0=if (List.range b).all p=true then e else r:=by
 refine z2b (α:=Nat) (A:=Unit) (L:=fun n i _=>L n i) (I:=fun pre _=>∀ j∈pre,p j=true) (G:=fun l _=>if l.all p=true then e else r) (List.range b) ?_ ?_ n (by simpa using hn) () (by simp)
 ·intro n pre x post _ hx hI ih hg hlt
  rw [y17] at hlt
  have hxi:x=pre.length:=by
   rw [y21 (by omega)] at hg
   simpa using hg.symm
  subst hxi
  have hpre:pre=List.range pre.length:=by
   have:=congrArg (List.take pre.length) hx
   rw [List.take_left,List.take_range] at this
   rw [y42 (by omega)] at this
   exact this.symm
  rw [h1 n pre.length (by omega) (fun j hj=>hI j (by rw [hpre]; simpa using hj))]
  by_cases hp:p pre.length=true
  ·rw [y4 hp,ih () (fun j hj=>by
    rcases ye.1 hj with hj | hj
    ·exact hI j hj
    ·rw [y2o.1 hj]; exact hp)]
   simp [hp]
  ·rw [y5 hp]; simp [hp]
 ·intro n _ _
  simpa using h2 n
structure SimpP (s:List Int):Prop where
 len1:1≤s.length
 len4:s.length≤4
 vert:∀ x∈s,0≤x∧x≤9
 rise:s.Pairwise (fun a b:Int=>a<b)
open Classical in
noncomputable def zbb (s:List Int):Bool:=decide (SimpP s)
theorem zbc {s:List Int}:zbb s=true↔SimpP s:=by unfold zbb; simp
open Classical in
theorem z199 {k:Nat} (hk:KK≤k) {s:List Int} (hs:s.length≤1000000000) (lo up:Int):zj4 k s lo up=some (decide ((∀ x∈s,lo≤x∧x≤up)∧s.Pairwise (fun a b:Int=>a<b))):=by
 have hK:=zf
 unfold zj4
 have:=z4f (L:=fun n i=>zcd k n s lo up i (some true)) (b:=s.length) (p:=fun i=>decide (∀ x,s[i]?=some x→(lo≤x∧x≤up)∧z7i (fun a b:Int=>a<b) s i x)) (r:=some false) (e:=some true) ?_ ?_ (n:=k) (by omega)
 ·rw [this]
  have e:((List.range s.length).all (fun i=>decide (∀ x,s[i]?=some x→(lo≤x∧x≤up)∧z7i (fun a b:Int=>a<b) s i x))=true)↔((∀ x∈s,lo≤x∧x≤up)∧s.Pairwise (fun a b:Int=>a<b)):=by
   simp only [y16,y19,y18]
   constructor
   ·intro h
    refine ⟨fun x hx=>?_,?_⟩
    ·obtain ⟨i,hi,rfl⟩:=List.getElem_of_mem hx
     exact (h i hi _ (yh hi)).1
    ·have:=zqg (R:=fun a b:Int=>a<b) (fun a b c=>Int.lt_trans) (l:=s) (m:=s.length) (fun j hj x hx=>(h j hj x hx).2)
     rwa [y2k] at this
   ·rintro ⟨h1,h2⟩ i hi x hx
    exact ⟨h1 x (yl hx),zur h2 hx⟩
  by_cases c:((∀ x∈s,lo≤x∧x≤up)∧s.Pairwise (fun a b:Int=>a<b))
  ·rw [y4 (e.2 c),yc c]
  ·rw [y5 (fun h=>c (e.1 h)),yb c]
 ·intro n i hi
  have hlt:(i:Int)<(s.length:Int):=by omega
  have hw:=zd (i:=i) (by omega)
  have hg:s[i]?=some s[i]:=yh hi
  simp only [zcd,hlt,y9,y7,yg,yd,hg,y6,hw,z7g,y3a,forall_eq']
  by_cases c1:lo≤s[i]∧s[i]≤up
  ·rw [yc c1]
   simp only [y10,ya,y8]
   by_cases h0:0<i
   ·have h0':(0:Int)<(i:Int):=by omega
    have hw1:z6 ((i:Int)-1)=((i-1:Nat):Int):=by rw [ze (by omega) (by omega)]; omega
    have hg1:s[i-1]?=some s[i-1]:=yh (by omega)
    simp only [h0',y9,y7,hw1,yg,yd,hg1,y6]
    by_cases c2:s[i-1]<s[i]
    ·have:z7i (fun a b:Int=>a<b) s i s[i]:=fun _ t ht=>by rw [hg1] at ht; cases ht; exact c2
     rw [y5 (by simp; omega),y4 (yc ⟨c1,this⟩)]
    ·have:¬ z7i (fun a b:Int=>a<b) s i s[i]:=fun h=>c2 (h h0 _ hg1)
     rw [y4 (yc (by omega)),y5 (fun h=>this (of_decide_eq_true h).2)]
   ·have h0':¬ (0:Int)<(i:Int):=by omega
    have:z7i (fun a b:Int=>a<b) s i s[i]:=fun h=>absurd h h0
    rw [yb h0',y5 (by simp),y4 (yc ⟨c1,this⟩)]
  ·rw [yb c1,y4 (by simp),y5 (fun h=>c1 (of_decide_eq_true h).1)]
 ·intro n
  simp only [zcd,yp,yf,ya,y8]
open Classical in
theorem z1rx {k:Nat} (hk:KK≤k) {s:List Int} (hs:s.length≤1000000000):zn4 k s=some (zbb s):=by
 unfold zn4
 rw [z7g]
 simp only [y6,z199 hk hs]
 by_cases c:(1:Int)≤(s.length:Int)∧(s.length:Int)≤4
 ·rw [yc c,y4 rfl]
  congr 1
  unfold zbb
  refine decide_eq_decide.2 ⟨fun h=>⟨by omega,by omega,h.1,h.2⟩,fun h=>⟨h.vert,h.rise⟩⟩
 ·rw [yb c,y5 (by simp)]
  congr 1
  unfold zbb
  rw [yb (fun h:SimpP s=>c ⟨by have:=h.len1; omega,by have:=h.len4; omega⟩)]
open Classical in
theorem z19a {k:Nat} (hk:KK≤k) {s:List Int} (hs:s.length≤1000000000):zjf k s=some (decide (s.Pairwise (fun a b:Int=>a<b))):=by
 have hK:=zf
 unfold zjf
 have key:∀ (d n i:Nat),s.length-i=d→d<n→0<i→(s.take i).Pairwise (fun a b:Int=>a<b)→zgw k n s (i:Int) (some true)=some (decide (s.Pairwise (fun a b:Int=>a<b))):=by
  intro d
  induction d with
  | zero =>
   intro n i hd hn h0 hp
   obtain ⟨n,rfl⟩:∃ m,n=m+1:=⟨n-1,by omega⟩
   have:¬ (i:Int)<(s.length:Int):=by omega
   rw [y51 (by omega)] at hp
   simp only [zgw,this,yf,ya,y8,yc hp]
  | succ d ih =>
   intro n i hd hn h0 hp
   obtain ⟨n,rfl⟩:∃ m,n=m+1:=⟨n-1,by omega⟩
   have hi:i<s.length:=by omega
   have hlt:(i:Int)<(s.length:Int):=by omega
   have hw:=zd (i:=i) (by omega)
   have hw1:z6 ((i:Int)-1)=((i-1:Nat):Int):=by rw [ze (by omega) (by omega)]; omega
   have hg:s[i]?=some s[i]:=yh hi
   have hg1:s[i-1]?=some s[i-1]:=yh (by omega)
   simp only [zgw,hlt,y9,y7,yg,yd,hg,hg1,y6,hw,hw1]
   by_cases c:s[i-1]<s[i]
   ·rw [yb (show ¬ s[i]≤s[i-1] by omega),y5 (by simp)]
    refine ih n (i+1) (by omega) (by omega) (by omega) ?_
    refine zuq (R:=fun a b:Int=>a<b) (fun a b c=>Int.lt_trans) fun j a b ha hb=>?_
    have hj:j+1<i+1:=by
     have:=(yo.1 hb).1
     rw [y1d] at this; omega
    rw [y1o (by omega)] at ha
    rw [y1o hj] at hb
    by_cases hji:j+1=i
    ·have e1:a=s[i-1]:=by
      have:s[j]?=s[i-1]?:=by rw [show j=i-1 by omega]
      rw [ha,hg1] at this
      exact y29 this
     have e2:b=s[i]:=by
      rw [hji,hg] at hb
      exact (y29 hb).symm
     rw [e1,e2]; exact c
    ·exact z198 hp (i:=j) (by rw [y1o (by omega)]; exact ha) (by rw [y1o (by omega)]; exact hb)
   ·rw [yc (show s[i]≤s[i-1] by omega),y4 rfl]
    congr 1
    refine (yb fun h=>c ?_).symm
    exact y4l.1 h (i-1) i (by omega) hi (by omega)
 have h1:=key (s.length-1) k 1 rfl (by omega) (by omega) (by cases s with
  | nil=>simp
  | cons a l=>simp)
 exact h1
theorem z1ry {k:Nat} (hk:KK≤k) {s:List Int} (hs:s.length≤1000000000):zpa k s ()=some (s.any fun x=>!decide (0≤x∧x≤9)):=by
 have hK:=zf
 unfold zpa ztn
 rw [zav (L:=fun n i=>zgx k n s () (s.length:Int) i (some (-1))) (p:=fun x=>!decide (0≤x∧x≤9)) s ?_ ?_ (n:=k) (by omega)]
 ·rw [y6,zdo]
 ·intro n i x hi hlt
  have hw:=zd (i:=i) (by omega)
  simp only [zgx,ztm,ztl,z6m,hlt,y9,y7,yg,yd,hi,y6,hw]
 ·intro n
  simp [zgx]
theorem z1rz {k:Nat} (hk:KK≤k) {s:List Int} (hs:s.length≤1000000000):zpb k s=some (zbb s):=by
 unfold zpb
 by_cases c1:1≤s.length
 ·rw [yc (show (1:Int)≤(s.length:Int) by omega),y4 rfl]
  by_cases c2:s.length≤4
  ·rw [yc (show (s.length:Int)≤4 by omega),y4 rfl,z19a hk hs,z1ry hk hs]
   simp only [y6]
   by_cases c3:s.Pairwise (fun a b:Int=>a<b)
   ·rw [yc c3,y4 rfl]
    congr 1
    rw [y3p,zbc]
    simp only [y1k,y3b,Bool.not_eq_true,decide_eq_false_iff_not,y43,y18]
    exact ⟨fun h=>⟨c1,c2,fun x hx=>by simpa using h x hx,c3⟩,fun h x hx=>by simpa using h.vert x hx⟩
   ·rw [yb c3,y5 (by simp)]
    congr 1
    symm
    rw [y3w,ne_eq,zbc]
    exact fun h=>c3 h.rise
  ·rw [yb (show ¬ (s.length:Int)≤4 by omega),y5 (by simp)]
   congr 1
   symm
   rw [y3w,ne_eq,zbc]
   exact fun h=>c2 h.len4
 ·rw [yb (show ¬ (1:Int)≤(s.length:Int) by omega),y5 (by simp)]
  congr 1
  symm
  rw [y3w,ne_eq,zbc]
  exact fun h=>c1 h.len1
def cI (x y:Int):Int:=if x<y then -1 else if y<x then 1 else 0
theorem zus (x y:Int):zb4 x y=some (cI x y):=by
 unfold zb4 zpe cI
 by_cases h1:x<y
 ·simp [h1]
 ·by_cases h2:y<x <;> simp [h1,h2]
theorem z1s0 (x y:Int):zpd x y=some (cI x y):=by
 unfold zpd zpc cI
 by_cases h1:x<y
 ·simp [h1]
 ·by_cases h2:y<x <;> simp [h1,h2]
theorem zut {k:Nat} (hk:KK≤k) (a b:Int):zjs k [a,b]=some (if a=0 then b else a):=by
 have hK:=zf
 obtain ⟨m,rfl⟩:∃ m,k=m+3:=⟨k-3,by omega⟩
 generalize hf:m+3=k
 have hw0:z6 1=1:=ze (by omega) (by omega)
 have hw1:z6 2=2:=ze (by omega) (by omega)
 show zd9 k k 0 [a,b] 2 0 (fun zero_2=>some zero_2)=_
 conv=>lhs; arg 2; rw [← hf]
 by_cases h:a=0
 ·by_cases h':b=0
  ·subst h; subst h'; simp [zd9,hw0,hw1]
  ·subst h; simp [zd9,hw0,hw1,h']
 ·simp [zd9,h]
def z54:List Int→List Int→Bool
 | x::a,y::b=>if x=y then z54 a b else decide (x<y)
 | _,_=>false
def z1g (a b:List Int):Bool:=decide (a.length<b.length)||(decide (a.length=b.length)&&z54 a b)
theorem z19b:∀ a:List Int,z54 a a=false
 | []=>rfl
 | x::a=>by simp [z54,z19b a]
theorem z19c:∀ a b c:List Int,a.length=b.length→b.length=c.length→z54 a b=true→z54 b c=true→z54 a c=true
 | [],_,_,_,_,h,_=>by simp [z54] at h
 | _::_,[],_,_,_,h,_=>by simp [z54] at h
 | _::_,_::_,[],_,_,_,h=>by simp [z54] at h
 | x::a,y::b,z::c,h1,h2,h3,h4=>by
  simp only [z54] at h3 h4 ⊢
  by_cases c1:x=y
  ·subst c1
   rw [y4 rfl] at h3
   by_cases c2:x=z
   ·rw [y4 c2] at h4 ⊢
    exact z19c a b c (by simpa using h1) (by simpa using h2) h3 h4
   ·rw [y5 c2] at h4 ⊢; exact h4
  ·rw [y5 c1,y18] at h3
   by_cases c2:y=z
   ·subst c2; rw [y5 c1,y18]; exact h3
   ·rw [y5 c2,y18] at h4
    rw [y5 (by omega),y18]; omega
theorem zqh (a:List Int):z1g a a=false:=by unfold z1g; simp [z19b]
theorem zk4 {a b c:List Int} (h1:z1g a b=true) (h2:z1g b c=true):z1g a c=true:=by
 unfold z1g at *
 simp only [y31,yi,y18] at *
 rcases h1 with h1 | ⟨e1,h1⟩
 ·rcases h2 with h2 | ⟨e2,h2⟩
  ·left; omega
  ·left; omega
 ·rcases h2 with h2 | ⟨e2,h2⟩
  ·left; omega
  ·exact .inr ⟨by omega,z19c a b c e1 e2 h1 h2⟩
theorem z1s1 {a b:List Int} (h:z1g a b=true):z1g b a=false:=by
 cases h':z1g b a
 ·rfl
 ·have:=zk4 h h'
  rw [zqh] at this; cases this
def z6b:List Int→List Int→Int
 | x::a,y::b=>if cI x y=0 then z6b a b else cI x y
 | _::_,[]=>1
 | [],_::_ => -1
 | [],[]=>0
def z8h (a b:List Int):Int:=if cI (a.length:Int) (b.length:Int)=0 then z6b a b else cI (a.length:Int) (b.length:Int)
theorem zds (x y:Int):cI x y=0↔x=y:=by
 unfold cI
 by_cases h1:x<y
 ·rw [y4 h1]; constructor <;> intro h <;> omega
 ·rw [y5 h1]
  by_cases h2:y<x
  ·rw [y4 h2]; constructor <;> intro h <;> omega
  ·rw [y5 h2]; constructor <;> intro h <;> omega
theorem z19d (x y:Int):cI x y<0↔x<y:=by
 unfold cI
 by_cases h1:x<y
 ·rw [y4 h1]; constructor <;> intro h <;> omega
 ·rw [y5 h1]
  by_cases h2:y<x
  ·rw [y4 h2]; constructor <;> intro h <;> omega
  ·rw [y5 h2]; constructor <;> intro h <;> omega
theorem z19e:∀ a b:List Int,z6b a b=0↔a=b
 | [],[]=>by simp [z6b]
 | _::_,[]=>by simp [z6b]
 | [],_::_=>by simp [z6b]
 | x::a,y::b=>by
  unfold z6b
  by_cases c:cI x y=0
  ·rw [y4 c,z19e a b,(zds x y).1 c]; simp
  ·rw [y5 c]
   have:x≠y:=fun e=>c ((zds x y).2 e)
   simp [c,this]
theorem z19f:∀ a b:List Int,a.length=b.length→(z6b a b<0↔z54 a b=true)
 | [],[],_=>by simp [z6b,z54]
 | _::_,[],h=>by simp at h
 | [],_::_,h=>by simp at h
 | x::a,y::b,h=>by
  unfold z6b z54
  by_cases c:cI x y=0
  ·rw [y4 c,y4 ((zds x y).1 c)]
   exact z19f a b (by simpa using h)
  ·rw [y5 c,y5 (fun e=>c ((zds x y).2 e)),z19d,y18]
theorem z19g (a b:List Int):z8h a b=0↔a=b:=by
 unfold z8h
 by_cases c:cI (a.length:Int) (b.length:Int)=0
 ·rw [y4 c]; exact z19e a b
 ·rw [y5 c]
  exact ⟨fun h=>absurd h c,fun h=>by rw [h] at c; exact absurd ((zds _ _).2 rfl) c⟩
theorem z19h (a b:List Int):decide (z8h a b<0)=z1g a b:=by
 rw [y3p,y18]
 unfold z8h z1g
 simp only [y31,yi,y18]
 by_cases c:cI (a.length:Int) (b.length:Int)=0
 ·have e:=(zds _ _).1 c
  rw [y4 c,z19f a b (by omega)]
  constructor
  ·intro h; exact .inr ⟨by omega,h⟩
  ·rintro (h | h)
   ·omega
   ·exact h.2
 ·have e:¬ (a.length:Int)=(b.length:Int):=fun e=>c ((zds _ _).2 e)
  rw [y5 c,z19d]
  constructor
  ·intro h; left; omega
  ·rintro (h | h)
   ·omega
   ·omega
theorem z1s2 (a b:List Int):decide (0≤z8h a b)=!z1g a b:=by
 rw [← z19h]
 by_cases h:z8h a b<0
 ·rw [yc h,yb (by omega)]; rfl
 ·rw [yb h,yc (by omega)]; rfl
theorem z1s3 {k:Nat} (hk:KK≤k) {a b:List Int} (ha:a.length≤1000000000) (hb:b.length≤1000000000):zpf k a b=some (z6b a b):=by
 have hK:=zf
 unfold zpf
 have key:∀ (d n i:Nat),a.length-i=d→d<n→zgy k n a b a (a.length:Int) (i:Int) (fun s_4 s_5=>(if (decide ((List.length s_4:Int)<(List.length s_5:Int)))=true then some (-1) else some 0))=(if i≤a.length then some (if a.length≤i then (if i<b.length then -1 else 0) else z6b (a.drop i) (b.drop i)) else some (if a.length<b.length then -1 else 0)):=by
  intro d
  induction d with
  | zero =>
   intro n i hd hn
   obtain ⟨n,rfl⟩:∃ m,n=m+1:=⟨n-1,by omega⟩
   have:¬ (i:Int)<(a.length:Int):=by omega
   simp only [zgy,this,yf,ya,y8]
   by_cases h1:i≤a.length
   ·have:i=a.length:=by omega
    subst this
    rw [y4 (yx _),y4 (yx _)]
    by_cases h2:a.length<b.length
    ·rw [yc (by omega),y4 rfl,y4 h2]
    ·rw [yb (by omega),y5 (by simp),y5 h2]
   ·rw [y5 h1]
    by_cases h2:a.length<b.length
    ·rw [yc (by omega),y4 rfl,y4 h2]
    ·rw [yb (by omega),y5 (by simp),y5 h2]
  | succ d ih =>
   intro n i hd hn
   obtain ⟨n,rfl⟩:∃ m,n=m+1:=⟨n-1,by omega⟩
   have hi:i<a.length:=by omega
   have hlt:(i:Int)<(a.length:Int):=by omega
   have hw:=zd (i:=i) (by omega)
   have da:a.drop i=a[i]::a.drop (i+1):=y2l hi
   rw [y4 (by omega),y5 (by omega),da]
   simp only [zgy,hlt,y9,y7,yg,yd,yh hi,y6,hw]
   by_cases hb2:i<b.length
   ·have db:b.drop i=b[i]::b.drop (i+1):=y2l hb2
    rw [db,yb (by omega),y5 (by simp),yh hb2]
    simp only [y6,zus]
    unfold z6b
    by_cases c:cI a[i] b[i]=0
    ·rw [yc c,y5 (by simp),y4 c,ih n (i+1) (by omega) (by omega),y4 (by omega)]
     by_cases h3:a.length≤i+1
     ·rw [y4 h3,y56 (l:=a) (by omega)]
      by_cases h4:i+1<b.length
      ·rw [y4 h4,y2l h4]; rfl
      ·rw [y5 h4,y56 (l:=b) (by omega)]; rfl
     ·rw [y5 h3]
    ·rw [yb c,y4 (by simp),y5 c]
   ·rw [y56 (l:=b) (by omega),yc (by omega),y4 rfl]
    rfl
 have h0:=key a.length k 0 (by omega) (by omega)
 have hz:((0:Nat):Int)=0:=rfl
 rw [hz] at h0
 rw [h0,y4 (y2n _),List.drop_zero,List.drop_zero]
 by_cases c:a.length≤0
 ·have:a=[]:=y4y.1 (by omega)
  subst this
  rw [y4 c]
  cases b with
  | nil=>rfl
  | cons y b=>rw [y4 (by simp)]; rfl
 ·rw [y5 c]
theorem zqi {k:Nat} (hk:KK≤k) {a b:List Int} (ha:a.length≤1000000000) (hb:b.length≤1000000000):zda k a b=some (z8h a b):=by
 unfold zda z8h
 rw [z1s0,z1s3 hk ha hb]
 simp only [y6,zut hk]
theorem z1s4 {k:Nat} (hk:KK≤k) {a b:List Int} (ha:a.length≤1000000000):zn5 k a b=some (z1g a b):=by
 have hK:=zf
 unfold zn5 z1g
 by_cases hl:a.length=b.length
 ·rw [yc (show (a.length:Int)=(b.length:Int) by omega),y5 (by simp),yb (by omega),yc hl,y3x,y1i]
  have key:∀ (d n i:Nat),a.length-i=d→d<n→zfh k n a b (i:Int) (some false)=some (z54 (a.drop i) (b.drop i)):=by
   intro d
   induction d with
   | zero =>
    intro n i hd hn
    obtain ⟨n,rfl⟩:∃ m,n=m+1:=⟨n-1,by omega⟩
    have:¬ (i:Int)<(a.length:Int):=by omega
    simp only [zfh,this,yf,ya,y8]
    rw [y56 (l:=a) (by omega)]; rfl
   | succ d ih =>
    intro n i hd hn
    obtain ⟨n,rfl⟩:∃ m,n=m+1:=⟨n-1,by omega⟩
    have hi:i<a.length:=by omega
    have hib:i<b.length:=by omega
    have hlt:(i:Int)<(a.length:Int):=by omega
    have hw:=zd (i:=i) (by omega)
    have da:a.drop i=a[i]::a.drop (i+1):=y2l hi
    have db:b.drop i=b[i]::b.drop (i+1):=y2l hib
    rw [da,db]
    unfold z54
    simp only [zfh,hlt,y9,y7,yg,yd,yh hi,yh hib,y6,hw]
    by_cases c:a[i]=b[i]
    ·rw [yc c,y5 (by simp),y4 c]
     exact ih n (i+1) (by omega) (by omega)
    ·rw [yb c,y4 (by simp),y5 c]
  exact key a.length k 0 (by omega) (by omega)
 ·rw [yb (show ¬ (a.length:Int)=(b.length:Int) by omega),y4 (by simp),yb hl,y4f,y4i]
  exact congrArg some (decide_eq_decide.2 (by omega))
theorem z1s5 {i j:Nat} (h:i+j<4611686018427387904):z6 (Int.fdiv (zca (z6 ((i:Int)+(j:Int)))) (2 ^ 1))=(((i+j) / 2:Nat):Int):=by
 rw [ze (x:=(i:Int)+j) (by omega) (by omega)]
 have hu:zca ((i:Int)+(j:Int))=(i:Int)+j:=by unfold zca IntKind.wrap; simp [IntKind.bits,IntKind.signed]; omega
 rw [hu,Int.fdiv_eq_ediv_of_nonneg _ (by omega),ze (by omega) (by omega)]
 omega
abbrev Cx:=List (List Int)
def zy (s:List Int) (k:Nat):List Int:=s.take k++s.drop (k+1)
theorem z8i {s:List Int} {k:Nat} (h:k<s.length):(zy s k).length=s.length-1:=by
 unfold zy; rw [List.length_append,List.length_take,List.length_drop]; omega
structure CxP (c:Cx):Prop where
 len:c.length≤48
 simp:∀ s∈c,SimpP s
 ord:c.Pairwise (fun a b=>z1g a b=true)
 face:∀ s∈c,1<s.length→∀ k,k<s.length→zy s k∈c
open Classical in
noncomputable def cxB (c:Cx):Bool:=decide (CxP c)
theorem zbd {c:Cx}:cxB c=true↔CxP c:=by unfold cxB; simp
def z55 (c:Cx):Prop:=c.length≤1048576∧∀ s∈c,s.length≤1048576
theorem zqj {s:List Int} (hs:s.length≤1048576) {k:Nat} (h:k<s.length):zce s (k:Int)=some (zy s k):=by
 have hL:=z1r
 have hw:=zd (i:=k) (by omega)
 have b1:(k:Int)≤(s.length:Int):=by omega
 have b2:((k+1:Nat):Int)≤(s.length:Int):=by omega
 unfold zce zfi
 have hdr:(s.drop (k+1)).take (s.length-(k+1))=s.drop (k+1):=y51 (by rw [y22]; exact yx _)
 simp only [yg,y2g,b1,yw,y7,yd]
 rw [y4 (by simp only [y2b,y1d]; omega)]
 simp only [y6,hw,yg,yd,b2,y2g,yw,y7,hdr]
 rw [y4 (by simp only [y1d,y22]; omega)]
 rfl
def z2s (c:Cx) (s:List Int):Nat:=c.findIdx (fun y=>decide (y=s))
theorem z9t {c:Cx} {s:List Int}:z2s c s<c.length↔s∈c:=by
 unfold z2s
 rw [y69]
 constructor
 ·rintro ⟨x,hx,h⟩; rw [← of_decide_eq_true h]; exact hx
 ·intro h; exact ⟨s,h,yc rfl⟩
theorem zdt {c:Cx} {s:List Int} (h:s∈c):c[z2s c s]?=some s:=by
 have hl:=z9t.2 h
 rw [yh hl]
 have:decide (c[z2s c s]=s)=true:=List.findIdx_getElem (xs:=c) (p:=fun y=>decide (y=s)) (w:=hl)
 rw [of_decide_eq_true this]
theorem z1s6 {k:Nat} (hk:KK≤k) {a b:List Int} (ha:a.length≤1000000000):zn6 k a b=some (decide (a=b)):=by
 have hK:=zf
 unfold zn6
 by_cases hl:a.length=b.length
 ·rw [yc (show (a.length:Int)=(b.length:Int) by omega),y5 (by simp)]
  refine z9a (L:=fun n i=>zfj k n a b i (some true)) a b hl ?_ ?_ (n:=k) (by omega)
  ·intro n i x y hx hy hlt
   have hw:=zd (i:=i) (by omega)
   by_cases e:x=y <;> simp [zfj,hlt,hx,hy,hw,e]
  ·intro n
   simp [zfj]
 ·have h2:a≠b:=fun e=>hl (by rw [e])
  rw [yb (show ¬ (a.length:Int)=(b.length:Int) by omega),y4 (by simp),yb h2]
theorem z19i {k:Nat} (hk:KK≤k) {c:Cx} (hc:z55 c) (s:List Int):zj5 k c s=some (if z2s c s<c.length then ((z2s c s:Nat):Int) else -1):=by
 have hK:=zf
 obtain ⟨h1,h2⟩:=hc
 unfold zj5
 rw [zav (L:=fun m i=>zfk k m c s i (some (-1))) (p:=fun y=>decide (y=s)) c ?_ ?_ (n:=k) (by omega)]
 ·unfold zj3 z2s
  cases hf:c.findIdx? (fun y=>decide (y=s)) with
  | some i =>
   obtain ⟨hlt,hp⟩:=List.findIdx?_eq_some_iff_findIdx_eq.1 hf
   rw [hp,y4 hlt]
  | none =>
   rw [y68] at hf
   have:¬ c.findIdx (fun y=>decide (y=s))<c.length:=fun h=>by
    obtain ⟨x,hx,h2⟩:=y69.1 h
    rw [hf x hx] at h2; cases h2
   rw [y5 this]
 ·intro m i x hi hlt
  have hw:=zd (i:=i) (by omega)
  have hxl:=h2 x (yl hi)
  simp only [zfk,hlt,y9,y7,yg,yd,hi,y6,hw,z1s6 hk (show x.length≤1000000000 by omega)]
 ·intro m
  simp [zfk]
theorem z19j (c:Cx) (s:List Int):decide ((if z2s c s<c.length then ((z2s c s:Nat):Int) else -1)<0)=!decide (s∈c):=by
 by_cases h:s∈c
 ·rw [y4 (z9t.2 h),yb (by omega),yc h]; rfl
 ·rw [y5 (fun h2=>h (z9t.1 h2)),yb h]; rfl
theorem z1s7 {k:Nat} (hk:KK≤k) {a b:List Int} (ha:a.length≤1048576) (hb:b.length≤1048576):zpi k [a,b]=some (a++b):=by
 have hK:=zf
 have hL:=z1r
 obtain ⟨n,rfl⟩:∃ n,k=n+3:=⟨k-3,by omega⟩
 have w1:z6 (0+(a.length:Int))=(a.length:Int):=by rw [ze (by omega) (by omega)]; omega
 have w2:z6 ((a.length:Int)+(b.length:Int))=((a.length+b.length:Nat):Int):=by rw [ze (by omega) (by omega)]; omega
 have w3:z6 ((0:Int)+1)=1:=ze (by omega) (by omega)
 have w4:z6 ((1:Int)+1)=2:=ze (by omega) (by omega)
 have n1:¬ ((a.length:Int)<0):=by omega
 have n2:¬ (((a.length+b.length:Nat):Int)<0):=by omega
 have l1:(((a.length+b.length:Nat):Int).toNat)*8≤LIM:=by simp only [yd]; omega
 have l2:a.length*8≤LIM:=by omega
 have l3:(a.length+b.length)*8≤LIM:=by omega
 unfold zpi
 simp only [zpg,y1g,y2b,y1a,Nat.reduceAdd,show ((2:Nat):Int)=2 from rfl,w1,w2,w3,w4]
 simp only [z15i,zph,w1,w2,w3,w4,n1,n2,true_and,l1,l2,l3,yg,y2z,yf,ya,y8,y7,y6,yw,y4n,y1q,show decide ((0:Int)<2)=true from rfl,show decide ((1:Int)<2)=true from rfl,show decide ((2:Int)<2)=false from rfl,show (0:Int).toNat=0 from rfl,show (1:Int).toNat=1 from rfl,show (0:Int)≤0 from y2g _,show (0:Int)≤1 by omega,y1g,y2b,y1a,Nat.reduceAdd,show ((2:Nat):Int)=2 from rfl]
def z23 (s:List Int):Cx:=if 1<s.length then (List.range s.length).map (zy s) else []
theorem z19k {k:Nat} (hk:KK≤k) {s:List Int} (hs:s.length≤1048576):zgz k s=some (z23 s):=by
 have hK:=zf
 have hL:=z1r
 unfold zgz
 have:=z2b (α:=Nat) (A:=Cx) (L:=fun n i q=>zdb k n s (s.length:Int) i q (fun q_3=>some q_3)) (I:=fun pre q=>q=(if 1<s.length then (List.range pre.length).map (zy s) else [])) (G:=fun _ _=>some (z23 s)) (List.range s.length) ?_ ?_ k (by simp; omega) [] (by simp)
 ·exact this
 ·intro n pre x post q hx hq ih hg hlt
  rw [y17] at hlt
  have hpl:pre.length<s.length:=by omega
  have hw:=zd (i:=pre.length) (by omega)
  simp only [zdb,hlt,y9,y7]
  by_cases c:1<s.length
  ·rw [y4 c] at hq
   have b1:(pre.length:Int)≤(s.length:Int):=by omega
   have b2:((pre.length+1:Nat):Int)≤(s.length:Int):=by omega
   have hdr:(s.drop (pre.length+1)).take (s.length-(pre.length+1))=s.drop (pre.length+1):=y51 (by rw [y22]; exact yx _)
   have hcc:=z1s7 hk (a:=s.take pre.length) (b:=s.drop (pre.length+1)) (by rw [y1d]; omega) (by rw [y22]; omega)
   have hlim:(q.length+1)*24≤LIM:=by rw [hq,ym,y17]; omega
   rw [yc (by omega),y4 rfl]
   simp only [yg,y2g,yd,b1,hw,b2,yw,y7,hdr,hcc,y6,yy,hlim]
   refine ih _ ?_
   rw [y4 c,hq,yk,yy,y30,y1z]
   rfl
  ·rw [yb (by omega),y5 (by simp),hw]
   exact ih _ (by rw [y5 c] at hq ⊢; exact hq)
 ·intro n q hq
  rw [y17] at hq ⊢
  simp only [zdb,yp,yf,ya,y8,hq]
  rfl
theorem zk5 {s f:List Int}:f∈z23 s↔1<s.length∧∃ k,k<s.length∧f=zy s k:=by
 unfold z23
 by_cases c:1<s.length
 ·rw [y4 c,y1c]
  constructor
  ·rintro ⟨k,hk,rfl⟩; exact ⟨c,k,y19.1 hk,rfl⟩
  ·rintro ⟨_,k,hk,rfl⟩; exact ⟨k,y19.2 hk,rfl⟩
 ·rw [y5 c]; simp [c]
def z35 (c:Cx) (s:List Int):Nat:=c.findIdx (fun y=>!z1g y s)
theorem z1s8 (c:Cx) (s:List Int):z35 c s≤c.length:=List.findIdx_le_length
theorem z19l {c:Cx} {s:List Int} {i:Nat} (h:i<z35 c s) (hi:i<c.length):z1g c[i] s=true:=by
 have:=List.not_of_lt_findIdx h
 simpa using this
theorem z19m {c:Cx} {s:List Int} (hs:c.Pairwise (fun a b=>z1g a b=true)) {i:Nat} (h:z35 c s≤i) (hi:i<c.length):z1g c[i] s=false:=by
 have hp:z35 c s<c.length:=by omega
 have h0:z1g c[z35 c s] s=false:=by
  have:=List.findIdx_getElem (xs:=c) (p:=fun y=>!z1g y s) (w:=hp)
  simp only [y1k] at this
  exact this
 by_cases e:i=z35 c s
 ·subst e; exact h0
 ·cases hb:z1g c[i] s
  ·rfl
  ·have h1:=y4l.1 hs (z35 c s) i hp hi (by omega)
   rw [zk4 h1 hb] at h0; cases h0
theorem z1s9 {c:Cx} (hs:c.Pairwise (fun a b=>z1g a b=true)) {s:List Int} (h:s∈c):z35 c s=z2s c s:=by
 have hl:=z9t.2 h
 have hg:=zdt h
 rw [yh hl] at hg
 have hg:=y29 hg
 have h1:¬ z2s c s<z35 c s:=fun q=>by have:=z19l q hl; rw [hg,zqh] at this; cases this
 have h2:¬ z35 c s<z2s c s:=fun q=>by
  have h3:=y4l.1 hs (z35 c s) (z2s c s) (by omega) hl q
  rw [hg] at h3
  rw [z19m hs (yx _) (by omega)] at h3; cases h3
 omega
theorem z1sa {k:Nat} (hk:KK≤k) {c:Cx} (hc:z55 c) (hs:c.Pairwise (fun a b=>z1g a b=true)) {s:List Int} (hsl:s.length≤1048576) {e:Cx→List Int→Unit→Int→Int→Option (Int×Bool)} :
  ∀ (d:Nat) (i j n:Nat),j-i≤d→d<n→i≤z35 c s→z35 c s≤j→j≤c.length→zb5 k n c s () (c.length:Int) (i:Int) (j:Int) e=e c s () (c.length:Int) ((z35 c s:Nat):Int):=by
 obtain ⟨hcl,hce⟩:=hc
 intro d
 induction d with
 | zero =>
  intro i j n h1 h2 h3 h4 h5
  obtain ⟨n,rfl⟩:∃ m,n=m+1:=⟨n-1,by omega⟩
  have hlt:¬ (i:Int)<(j:Int):=by omega
  simp only [zb5,hlt,yf,ya,y8]
  rw [show i=z35 c s by omega]
 | succ d ih =>
  intro i j n h1 h2 h3 h4 h5
  obtain ⟨n,rfl⟩:∃ m,n=m+1:=⟨n-1,by omega⟩
  by_cases hij:i<j
  ·have hlt:(i:Int)<(j:Int):=by omega
   have hm:(i+j) / 2<c.length:=by omega
   have hw:=zd (i:=(i+j) / 2) (by omega)
   have hml:=hce c[(i+j) / 2] (y1e hm)
   simp only [zb5,hlt,y9,y7,z1s5 (show i+j<4611686018427387904 by omega),yg,yd,yh hm,y6,zqi hk (show (c[(i+j) / 2]).length≤1000000000 by omega) (show s.length≤1000000000 by omega),z19h,hw]
   by_cases hb:z1g c[(i+j) / 2] s=true
   ·rw [y4 hb]
    refine ih _ _ _ (by omega) (by omega) ?_ h4 h5
    by_cases hq:z35 c s≤(i+j) / 2
    ·rw [z19m hs hq hm] at hb; cases hb
    ·omega
   ·rw [y5 hb]
    refine ih _ _ _ (by omega) (by omega) h3 ?_ (by omega)
    by_cases hq:(i+j) / 2<z35 c s
    ·exact absurd (z19l hq hm) hb
    ·omega
  ·have hlt:¬ (i:Int)<(j:Int):=by omega
   simp only [zb5,hlt,yf,ya,y8]
   rw [show i=z35 c s by omega]
theorem z19n {k:Nat} (hk:KK≤k) {c:Cx} (hc:z55 c) (hs:c.Pairwise (fun a b=>z1g a b=true)) {s:List Int} (hsl:s.length≤1048576):zjt k c s=some (if z2s c s<c.length then ((z2s c s:Nat):Int) else -1):=by
 have hK:=zf
 have hcl:=hc.1
 have:=z1s8 c s
 unfold zjt ztq
 have h0:=z1sa hk hc hs hsl (e:=fun x_3 target_4 cmp_5 n_6 i_7=>(if (decide (i_7<n_6))=true then (if 0≤i_7 then (x_3[i_7.toNat]?).bind fun y_8=>(zda k y_8 target_4).bind fun r_9=>some (i_7,(decide (r_9=0))) else none) else some (i_7,false))) c.length 0 c.length k (by omega) (by omega) (by omega) (by omega) (by omega)
 rw [show ((0:Nat):Int)=0 from rfl] at h0
 rw [h0]
 by_cases h:s∈c
 ·have hp:=z1s9 hs h
  have hl:=z9t.2 h
  have hg:=zdt h
  rw [hp,y4 hl,yc (by omega),y4 rfl]
  simp only [yg,y7,yd,hg,y6,zqi hk (show s.length≤1000000000 by omega) (show s.length≤1000000000 by omega)]
  have:z8h s s=0:=(z19g s s).2 rfl
  rw [this]; rfl
 ·rw [y5 (fun q=>h (z9t.1 q))]
  by_cases hl:z35 c s<c.length
  ·have hxl:=hc.2 c[z35 c s] (y1e hl)
   rw [yc (by omega),y4 rfl]
   simp only [yg,y7,yd,yh hl,y6,zqi hk (show (c[z35 c s]).length≤1000000000 by omega) (show s.length≤1000000000 by omega)]
   have:¬ z8h c[z35 c s] s=0:=fun e=>h (by rw [← (z19g _ _).1 e]; exact y1e hl)
   rw [yb this]; rfl
  ·rw [yb (by omega),y5 (by simp)]; rfl
open Classical in
noncomputable def z7j (c d:Cx) (i:Nat):Bool:=decide (∀ s,c[i]?=some s→SimpP s∧z7i (fun a b=>z1g a b=true) c i s∧(1<s.length→∀ k,k<s.length→zy s k∈d))
open Classical in
theorem z4i {c d:Cx} {i:Nat} {s:List Int} (h:c[i]?=some s):z7j c d i=true↔SimpP s∧z7i (fun a b=>z1g a b=true) c i s∧(1<s.length→∀ k,k<s.length→zy s k∈d):=by
 unfold z7j
 rw [y18]
 exact ⟨fun q=>q s h,fun q t ht=>by rw [h] at ht; cases ht; exact q⟩
open Classical in
theorem z1sb {k:Nat} (hk:KK≤k) {c:Cx} (hc:z55 c):zn7 k c=some (cxB c):=by
 have hK:=zf
 obtain ⟨hcl,hce⟩:=hc
 unfold zn7
 by_cases h48:c.length≤48
 ·rw [yb (by omega),y5 (by simp)]
  have:=z4f (L:=fun n i=>z7b k n c i (some true)) (b:=c.length) (p:=fun i=>z7j c c i) (r:=some false) (e:=some true) ?_ ?_ (n:=k) (by omega)
  ·rw [this]
   have e:(List.range c.length).all (fun i=>z7j c c i)=true↔CxP c:=by
    rw [y16]
    constructor
    ·intro h
     have h':∀ i s,c[i]?=some s→SimpP s∧z7i (fun a b=>z1g a b=true) c i s∧(1<s.length→∀ k,k<s.length→zy s k∈c):=fun i s hs=>(z4i hs).1 (h i (y19.2 (yo.1 hs).1))
     refine ⟨h48,fun s hs=>?_,?_,fun s hs=>?_⟩
     ·obtain ⟨i,hi⟩:=y2s hs
      exact (h' i s hi).1
     ·have:=zqg (R:=fun a b=>z1g a b=true) (fun a b c=>zk4) (l:=c) (m:=c.length) (fun j hj x hx=>(h' j x hx).2.1)
      rwa [y2k] at this
     ·obtain ⟨i,hi⟩:=y2s hs
      exact (h' i s hi).2.2
    ·intro h i hi
     rw [y19] at hi
     exact (z4i (yh hi)).2 ⟨h.simp _ (y1e hi),zur h.ord (yh hi),h.face _ (y1e hi)⟩
   by_cases q:CxP c
   ·rw [y4 (e.2 q),zbd.2 q]
   ·rw [y5 (fun h=>q (e.1 h))]
    congr 1
    symm
    rw [y3w,ne_eq,zbd]; exact q
  ·intro n i hi
   have hlt:(i:Int)<(c.length:Int):=by omega
   have hw:=zd (i:=i) (by omega)
   have hg:c[i]?=some c[i]:=yh hi
   have hsl:=hce c[i] (y1e hi)
   have hin:z9c k k c (i:Int) c[i] 0 (fun c_5 i_6=>z7b k n c_5 (z6 (i_6+1)) (some true))=if (∀ k,1<(c[i]).length→k<(c[i]).length→zy c[i] k∈c) then z7b k n c ((i+1:Nat):Int) (some true) else some false:=by
    by_cases h1:1<(c[i]).length
    ·have:=z4f (L:=fun m j=>z9c k m c (i:Int) c[i] j (fun c_5 i_6=>z7b k n c_5 (z6 (i_6+1)) (some true))) (b:=(c[i]).length) (p:=fun j=>decide (zy c[i] j∈c)) (r:=some false) (e:=z7b k n c ((i+1:Nat):Int) (some true)) ?_ ?_ (n:=k) (by omega)
     ·rw [this]
      simp only [y16,y19,y18]
      by_cases q:∀ j,j<(c[i]).length→zy c[i] j∈c
      ·rw [y4 q,y4 (fun j _ hj=>q j hj)]
      ·rw [y5 q,y5 (fun h=>q fun j hj=>h j h1 hj)]
     ·intro m j hj
      have hjlt:(j:Int)<((c[i]).length:Int):=by omega
      have hw2:=zd (i:=j) (by omega)
      simp only [z9c,hjlt,y9,y7,yc (show (1:Int)<((c[i]).length:Int) by omega),zqj hsl hj,y6,z19i hk ⟨hcl,hce⟩,z19j,hw2]
      by_cases q:zy c[i] j∈c
      ·rw [yc q]; simp
      ·rw [yb q]; simp
     ·intro m
      simp only [z9c,yp,yf,ya,y8,hw]
    ·rw [y4 (fun j h=>absurd h h1)]
     obtain ⟨m,hm⟩:∃ m,k=m+1:=⟨k-1,by omega⟩
     have hn1:¬ (1:Int)<((c[i]).length:Int):=by omega
     conv=>lhs; arg 2; rw [hm]
     simp only [z9c,hn1,yf,ya,y8,hw]
     split <;> rfl
   simp only [z7b,hlt,y9,y7,yg,yd,hg,y6,z1rx hk (show (c[i]).length≤1000000000 by omega)]
   cases hsb:zbb c[i] with
   | false =>
    have:¬ z7j c c i=true:=fun h=>by
     have:=zbc.2 ((z4i hg).1 h).1
     rw [hsb] at this; cases this
    rw [y5 this]; simp
   | true =>
    have hsp:=zbc.1 hsb
    simp only [y10,ya,y8]
    by_cases h0:0<i
    ·have h0':(0:Int)<(i:Int):=by omega
     have hw1:z6 ((i:Int)-1)=((i-1:Nat):Int):=by rw [ze (by omega) (by omega)]; omega
     have hg1:c[i-1]?=some c[i-1]:=yh (by omega)
     have hpl:=hce c[i-1] (y1e (by omega))
     simp only [h0',y9,y7,hw1,yg,yd,hg1,y6,z1s4 hk (show (c[i-1]).length≤1000000000 by omega)]
     cases hbf:z1g c[i-1] c[i] with
     | false =>
      have:¬ z7j c c i=true:=fun h=>by
       have:z1g c[i-1] c[i]=true:=((z4i hg).1 h).2.1 h0 _ hg1
       rw [hbf] at this; cases this
      rw [y5 this]; simp
     | true =>
      simp only [y10,ya,y8,hin]
      by_cases q:∀ k,1<(c[i]).length→k<(c[i]).length→zy c[i] k∈c
      ·rw [y4 q,y4 ((z4i hg).2 ⟨hsp,fun _ t ht=>by rw [hg1] at ht; cases ht; exact hbf,fun a b=>q b a⟩)]
      ·rw [y5 q,y5 (fun h=>q fun b a=>((z4i hg).1 h).2.2 a b)]
    ·have h0':¬ (0:Int)<(i:Int):=by omega
     simp only [h0',yf,ya,y8,hin]
     by_cases q:∀ k,1<(c[i]).length→k<(c[i]).length→zy c[i] k∈c
     ·rw [y4 q,y4 ((z4i hg).2 ⟨hsp,fun h=>absurd h h0,fun a b=>q b a⟩)]
     ·rw [y5 q,y5 (fun h=>q fun b a=>((z4i hg).1 h).2.2 a b)]
  ·intro n
   simp only [z7b,yp,yf,ya,y8]
 ·rw [yc (by omega),y4 rfl]
  congr 1
  symm
  rw [y3w,ne_eq,zbd]
  exact fun h=>h48 h.len
theorem z1sc {c:Cx} (hc:z55 c) (i:Nat):z55 (c.take i):=⟨by rw [y1d]; have:=hc.1; omega,fun s hs=>hc.2 s (y2a hs)⟩
theorem z1sd {k:Nat} (hk:KK≤k) {c:Cx} (hc:z55 c) {i:Nat} (hi:i≤c.length) (hs:(c.take i).Pairwise (fun a b=>z1g a b=true)) {s:List Int} (hsl:s.length≤1048576):zju k (z23 s) (c,(i:Int))=some ((z23 s).any fun f=>!decide (f∈c.take i)):=by
 have hK:=zf
 have hcl:=hc.1
 have hfl:(z23 s).length≤1048576:=by
  unfold z23
  split
  ·rw [ym,y17]; exact hsl
  ·simp
 unfold zju zts
 rw [zav (L:=fun n j=>zh0 k n (z23 s) (c,(i:Int)) ((z23 s).length:Int) j (some (-1))) (p:=fun f=>!decide (f∈c.take i)) (z23 s) ?_ ?_ (n:=k) (by omega)]
 ·rw [y6,zdo]
 ·intro n j f hj hlt
  have hw:=zd (i:=j) (by omega)
  have hf:f.length≤1048576:=by
   obtain ⟨_,q,hq,rfl⟩:=zk5.1 (yl hj)
   rw [z8i hq]; omega
  have b1:(i:Int)≤(c.length:Int):=by omega
  simp only [zh0,ztr,hlt,y9,y7,yg,y2g,b1,yw,yd,hj,y6,z19n hk (z1sc hc i) hs hf,z19j,hw]
 ·intro n
  simp [zh0]
theorem zqk {s:List Int} {d:Cx}:((z23 s).any fun f=>!decide (f∈d))=false↔(1<s.length→∀ k,k<s.length→zy s k∈d):=by
 rw [y3b]
 constructor
 ·intro h h1 k hk
  have:=h _ (zk5.2 ⟨h1,k,hk,rfl⟩)
  simpa using this
 ·intro h f hf
  obtain ⟨h1,k,hk,rfl⟩:=zk5.1 hf
  simpa using h h1 k hk
theorem z1se {k:Nat} (hk:KK≤k) {c:Cx} (hc:z55 c):zpj k c=some (cxB c):=by
 have hK:=zf
 obtain ⟨hcl,hce⟩:=hc
 unfold zpj
 have:=z1rw (L:=fun n i=>zdc k n c (c.length:Int) i c (fun v_9=>some (decide ((List.length v_9:Int)≤48)))) (b:=c.length) (p:=fun i=>z7j c (c.take i) i) (r:=some false) (e:=some (decide (c.length≤48))) ?_ ?_ (n:=k) (by omega)
 ·rw [this]
  have e:((List.range c.length).all (fun i=>z7j c (c.take i) i)=true∧c.length≤48)↔CxP c:=by
   rw [y16]
   constructor
   ·rintro ⟨h,h48⟩
    have h':∀ i s,c[i]?=some s→SimpP s∧z7i (fun a b=>z1g a b=true) c i s∧(1<s.length→∀ k,k<s.length→zy s k∈c.take i):=fun i s hs=>(z4i hs).1 (h i (y19.2 (yo.1 hs).1))
    refine ⟨h48,fun s hs=>?_,?_,fun s hs h1 k hk=>?_⟩
    ·obtain ⟨i,hi⟩:=y2s hs
     exact (h' i s hi).1
    ·have:=zqg (R:=fun a b=>z1g a b=true) (fun a b c=>zk4) (l:=c) (m:=c.length) (fun j hj x hx=>(h' j x hx).2.1)
     rwa [y2k] at this
    ·obtain ⟨i,hi⟩:=y2s hs
     exact y2a ((h' i s hi).2.2 h1 k hk)
   ·intro h
    refine ⟨fun i hi=>?_,h.len⟩
    rw [y19] at hi
    have hg:c[i]?=some c[i]:=yh hi
    refine (z4i hg).2 ⟨h.simp _ (y1e hi),zur h.ord hg,fun h1 k hk=>?_⟩
    have hm:=h.face _ (y1e hi) h1 k hk
    obtain ⟨j,hj⟩:=y2s hm
    obtain ⟨hjl,hje⟩:=yo.1 hj
    have hji:j<i:=by
     by_cases q:j<i
     ·exact q
     ·have hb:z1g (zy c[i] k) c[i]=true:=by
       unfold z1g
       rw [z8i hk,yc (by omega)]; rfl
      by_cases q2:j=i
      ·subst q2
       have:=zqh c[j]
       rw [← hje,zqh] at hb; cases hb
      ·have h3:=y4l.1 h.ord i j hi hjl (by omega)
       rw [hje,z1s1 hb] at h3; cases h3
    rw [List.mem_take_iff_getElem]
    exact ⟨j,by omega,hje⟩
  by_cases q:CxP c
  ·obtain ⟨q1,q2⟩:=e.2 q
   rw [y4 q1,yc q2,zbd.2 q]
  ·have:cxB c=false:=by rw [y3w,ne_eq,zbd]; exact q
   rw [this]
   by_cases q1:(List.range c.length).all (fun i=>z7j c (c.take i) i)=true
   ·rw [y4 q1,yb (fun q2=>q (e.1 ⟨q1,q2⟩))]
   ·rw [y5 q1]
 ·intro n i hi hpre
  have hlt:(i:Int)<(c.length:Int):=by omega
  have hw:=zd (i:=i) (by omega)
  have hg:c[i]?=some c[i]:=yh hi
  have hsl:=hce c[i] (y1e hi)
  have hsorted:(c.take i).Pairwise (fun a b=>z1g a b=true):=zqg (R:=fun a b=>z1g a b=true) (fun a b c=>zk4) (fun j hj x hx=>((z4i hx).1 (hpre j hj)).2.1)
  simp only [zdc,hlt,y9,y7,yg,yd,hg,y6,z1rz hk (show (c[i]).length≤1000000000 by omega),z19k hk hsl,z1sd hk ⟨hcl,hce⟩ (Nat.le_of_lt hi) hsorted hsl,hw]
  cases hsb:zbb c[i] with
  | false =>
   have:¬ z7j c (c.take i) i=true:=fun h=>by
    have:=zbc.2 ((z4i hg).1 h).1
    rw [hsb] at this; cases this
   rw [y5 this]; simp
  | true =>
   have hsp:=zbc.1 hsb
   simp only [y10,ya,y8]
   by_cases h0:0<i
   ·have h0':(0:Int)<(i:Int):=by omega
    have hw1:z6 ((i:Int)-1)=((i-1:Nat):Int):=by rw [ze (by omega) (by omega)]; omega
    have hg1:c[i-1]?=some c[i-1]:=yh (by omega)
    have hpl:=hce c[i-1] (y1e (by omega))
    simp only [h0',y9,y7,hw1,yg,yd,hg1,y6,zqi hk (show (c[i-1]).length≤1000000000 by omega) (show (c[i]).length≤1000000000 by omega),z1s2]
    cases hbf:z1g c[i-1] c[i] with
    | false =>
     have:¬ z7j c (c.take i) i=true:=fun h=>by
      have:z1g c[i-1] c[i]=true:=((z4i hg).1 h).2.1 h0 _ hg1
      rw [hbf] at this; cases this
     rw [y5 this]; simp
    | true =>
     simp only [y10,ya,y8]
     cases hq:(z23 c[i]).any fun f=>!decide (f∈c.take i) with
     | false =>
      rw [y5 (by simp),y4 ((z4i hg).2 ⟨hsp,fun _ t ht=>by rw [hg1] at ht; cases ht; exact hbf,zqk.1 hq⟩)]
     | true =>
      rw [y4 rfl,y5 (fun h=>by rw [zqk.2 ((z4i hg).1 h).2.2] at hq; cases hq)]
   ·have h0':¬ (0:Int)<(i:Int):=by omega
    simp only [h0',yf,ya,y8]
    cases hq:(z23 c[i]).any fun f=>!decide (f∈c.take i) with
    | false =>
     rw [y5 (by simp),y4 ((z4i hg).2 ⟨hsp,fun h=>absurd h h0,zqk.1 hq⟩)]
    | true =>
     rw [y4 rfl,y5 (fun h=>by rw [zqk.2 ((z4i hg).1 h).2.2] at hq; cases hq)]
 ·intro n
  have e2:decide ((c.length:Int)≤48)=decide (c.length≤48):=decide_eq_decide.2 (by omega)
  simp only [zdc,yp,yf,ya,y8,e2]
abbrev She:=Cx×Int×List Int×List Mat
def ofC (c:Cx) (d:Int):List Nat:=(List.range c.length).filter fun i=>match c[i]? with | some s=>decide ((s.length:Int)=d+1) | none=>false
theorem z8j {c:Cx} {d:Int} {i:Nat} (h:i∈ofC c d):i<c.length:=y19.1 (y2c.1 h).1
theorem z9u (c:Cx) (d:Int):(ofC c d).length≤c.length:=by
 unfold ofC
 exact y1m (y4m ..) (by rw [y17]; exact yx _)
theorem zk6 (f:Nat→Bool) (n:Nat):(List.range (n+1)).filter f=(List.range n).filter f++(if f n=true then [n] else []):=by
 rw [y30,y57,List.filter_cons,List.filter_nil]
theorem zk7 {k:Nat} (hk:KK≤k) {c:Cx} (hc:z55 c) {d:Int} (hd : -1000≤d∧d≤1000):zgb k c d=some ((ofC c d).map fun i:Nat=>(i:Int)):=by
 have hK:=zf
 have hL:=z1r
 obtain ⟨hcl,hce⟩:=hc
 have hwd:z6 (d+1)=d+1:=ze (by omega) (by omega)
 unfold zgb
 have:=z2b (α:=List Int) (A:=List Int) (L:=fun n i q=>zcp k n c d i q (fun q_4=>some q_4)) (I:=fun pre q=>q=((List.range pre.length).filter fun i=>match c[i]? with | some s=>decide ((s.length:Int)=d+1) | none=>false).map fun i:Nat=>(i:Int)) (G:=fun _ _=>some ((ofC c d).map fun i:Nat=>(i:Int))) c ?_ ?_ k (by omega) [] (by simp)
 ·exact this
 ·intro n pre x post q hx hq ih hg hlt
  have hw:=zd (i:=pre.length) (by omega)
  have hql:q.length≤pre.length:=by rw [hq,ym]; exact y1m (y4m ..) (by rw [y17]; exact yx _)
  have hlim:(q.length+1)*8≤LIM:=by omega
  simp only [zcp,hlt,y9,y7,yg,yd,hg,y6,hw,hwd,yy,hlim]
  by_cases hb:(x.length:Int)=d+1
  ·rw [yc hb,y4 rfl]
   refine ih _ ?_
   rw [yk,yy,zk6,hg]
   simp only [hb,y9,y7,y1z,hq,y1n,y38]
  ·rw [yb hb,y5 (by simp)]
   refine ih _ ?_
   rw [yk,yy,zk6,hg]
   simp only [hb,yf,ya,y8,y1t,hq]
 ·intro n q hq
  simp only [zcp,yp,yf,ya,y8,hq]
  rfl
theorem zhm {k:Nat} (hk:KK≤k) {c:Cx} (hc:z55 c) {d:Int} (hd : -1000≤d∧d≤1000):zci k c d=some ((ofC c d).map fun i:Nat=>(i:Int)):=by
 have hK:=zf
 have hL:=z1r
 obtain ⟨hcl,hce⟩:=hc
 have hwd:z6 (d+1)=d+1:=ze (by omega) (by omega)
 unfold zci
 have:=z2b (α:=List Int) (A:=List Int) (L:=fun n i q=>zdd k n d c (c.length:Int) i q (fun q_4=>some q_4)) (I:=fun pre q=>q=((List.range pre.length).filter fun i=>match c[i]? with | some s=>decide ((s.length:Int)=d+1) | none=>false).map fun i:Nat=>(i:Int)) (G:=fun _ _=>some ((ofC c d).map fun i:Nat=>(i:Int))) c ?_ ?_ k (by omega) [] (by simp)
 ·exact this
 ·intro n pre x post q hx hq ih hg hlt
  have hw:=zd (i:=pre.length) (by omega)
  have hql:q.length≤pre.length:=by rw [hq,ym]; exact y1m (y4m ..) (by rw [y17]; exact yx _)
  have hlim:(q.length+1)*8≤LIM:=by omega
  simp only [zdd,z8a,hlt,y9,y7,yg,yd,hg,y6,hw,hwd,yy,hlim]
  by_cases hb:(x.length:Int)=d+1
  ·rw [yc hb,y4 rfl]
   refine ih _ ?_
   rw [yk,yy,zk6,hg]
   simp only [hb,y9,y7,y1z,hq,y1n,y38]
  ·rw [yb hb,y5 (by simp)]
   refine ih _ ?_
   rw [yk,yy,zk6,hg]
   simp only [hb,yf,ya,y8,y1t,hq]
 ·intro n q hq
  simp only [zdd,yp,yf,ya,y8,hq]
  rfl
structure StP (c:Cx) (st:List Int):Prop where
 len:st.length=c.length
 val:∀ x∈st,0≤x∧x≤3
def zh (st:List Int) (l:List Nat):Int:=(l.map fun i=>st.getD i 0).sum
theorem zql (st:List Int) (l:List Nat) (i:Nat):zh st (l++[i])=zh st l+st.getD i 0:=by unfold zh; simp
theorem z7k {c:Cx} {st:List Int} (h:StP c st) {i:Nat} (hi:i<c.length):st[i]?=some (st.getD i 0)∧0≤st.getD i 0∧st.getD i 0≤3:=by
 have hl:i<st.length:=by rw [h.len]; exact hi
 have e:st.getD i 0=st[i]:=by rw [y15,yh hl]; rfl
 rw [e]
 exact ⟨yh hl,h.val _ (y1e hl)⟩
theorem z9v {c:Cx} {st:List Int} (h:StP c st):∀ (l:List Nat),(∀ i∈l,i<c.length)→0≤zh st l∧zh st l≤3*l.length
 | [],_=>by simp [zh]
 | i::l,hl=>by
  have ih:=z9v h l (fun j hj=>hl j (by simp [hj]))
  have:=z7k h (hl i (by simp))
  have e:zh st (i::l)=st.getD i 0+zh st l:=by unfold zh; simp
  rw [e,y1g]
  omega
theorem z9w {k:Nat} (hk:KK≤k) {c:Cx} (hc:z55 c) {st:List Int} (h:StP c st) {d:Int} (hd : -1000≤d∧d≤1000):zaz k c st d=some (zh st (ofC c d)):=by
 have hK:=zf
 have hol:=z9u c d
 have hcl:=hc.1
 unfold zaz
 rw [zk7 hk hc hd]
 simp only [y6]
 have:=z2b (α:=Nat) (A:=Int) (L:=fun n i z=>zgc k n st z i ((ofC c d).map fun i:Nat=>(i:Int)) (fun z=>some z)) (I:=fun pre z=>z=zh st pre) (G:=fun _ _=>some (zh st (ofC c d))) (ofC c d) ?_ ?_ k (by omega) 0 rfl
 ·exact this
 ·intro n pre x post z hx hz ih hg hlt
  have hw:=zd (i:=pre.length) (by omega)
  have hxc:x<c.length:=z8j (by rw [hx]; simp:x∈ofC c d)
  have hF:((ofC c d).map fun i:Nat=>(i:Int))[pre.length]?=some (x:Int):=by rw [yr,hg]; rfl
  have hpl:pre.length<(ofC c d).length:=by omega
  obtain ⟨s1,s2,s3⟩:=z7k h hxc
  have hb:=z9v h pre (fun j hj=>z8j (by rw [hx]; simp [hj]:j∈ofC c d))
  have hwz:z6 (z+st.getD x 0)=z+st.getD x 0:=ze (by omega) (by omega)
  simp only [zgc,ym,hlt,hpl,y9,y7,yg,yd,yw,hF,s1,y6,hw,hwz]
  exact ih _ (by rw [zql,hz])
 ·intro n z hz
  simp only [zgc,ym,yp,yf,ya,y8,hz]
theorem z9x {k:Nat} (hk:KK≤k) {s:She} (hc:z55 s.1) (h:StP s.1 s.2.2.1) {d:Int} (hd : -1000≤d∧d≤1000):zb6 k s d=some (zh s.2.2.1 (ofC s.1 d)):=by
 have hK:=zf
 have hol:=z9u s.1 d
 have hcl:=hc.1
 unfold zb6
 rw [zhm hk hc hd]
 simp only [y6,ym]
 have:=z2b (α:=Nat) (A:=Int) (L:=fun n i z=>zh3 k n z ((ofC s.1 d).length:Int) i ((ofC s.1 d).map fun i:Nat=>(i:Int)) s (fun z=>some z)) (I:=fun pre z=>z=zh s.2.2.1 pre) (G:=fun _ _=>some (zh s.2.2.1 (ofC s.1 d))) (ofC s.1 d) ?_ ?_ k (by omega) 0 rfl
 ·exact this
 ·intro n pre x post z hx hz ih hg hlt
  have hw:=zd (i:=pre.length) (by omega)
  have hxc:x<s.1.length:=z8j (by rw [hx]; simp:x∈ofC s.1 d)
  have hF:((ofC s.1 d).map fun i:Nat=>(i:Int))[pre.length]?=some (x:Int):=by rw [yr,hg]; rfl
  have hpl:pre.length<(ofC s.1 d).length:=by omega
  obtain ⟨s1,s2,s3⟩:=z7k h hxc
  have hb:=z9v h pre (fun j hj=>z8j (by rw [hx]; simp [hj]:j∈ofC s.1 d))
  have hwz:z6 (z+s.2.2.1.getD x 0)=z+s.2.2.1.getD x 0:=ze (by omega) (by omega)
  simp only [zh3,ym,hlt,hpl,y9,y7,yg,yd,yw,hF,s1,y6,hw,hwz]
  exact ih _ (by rw [zql,hz])
 ·intro n z hz
  simp only [zh3,yp,yf,ya,y8,hz]
noncomputable instance stP_dec (c:Cx) (st:List Int):Decidable (StP c st):=Classical.propDecidable _
noncomputable def stB (c:Cx) (st:List Int):Bool:=decide (StP c st)&&(List.range 4).all fun d=>decide (zh st (ofC c (d:Int))≤32)
theorem zuu {c:Cx} {st:List Int} (h:stB c st=true):StP c st:=by
 unfold stB at h
 rw [yi,y18] at h
 exact h.1
theorem z19o {c:Cx} {st:List Int}:(st.all (fun x=>decide (0≤x∧x≤4-1))&&decide ((st.length:Int)=(c.length:Int)))=true↔StP c st:=by
 simp only [yi,y16,y18]
 exact ⟨fun h=>⟨by omega,fun x hx=>by have:=h.1 x hx; omega⟩,fun h=>⟨fun x hx=>by have:=h.val x hx; omega,by have:=h.len; omega⟩⟩
theorem z1sf {k:Nat} (hk:KK≤k) {c:Cx} (hc:z55 c) {st:List Int} (hs:st.length≤1048576):zo9 k c st=some (stB c st):=by
 have hK:=zf
 unfold zo9
 rw [zjz hk hs _ (by omega)]
 simp only [y6]
 by_cases h:StP c st
 ·rw [z19o.2 h]
  simp only [y10,ya,y8]
  have:=z4f (L:=fun n i=>zgd k n c st i (some true)) (b:=4) (p:=fun d:Nat=>decide (zh st (ofC c (d:Int))≤32)) (r:=some false) (e:=some true) ?_ ?_ (n:=k) (by omega)
  ·rw [this]
   unfold stB
   rw [yc h,y1i]
   cases (List.range 4).all fun d=>decide (zh st (ofC c (d:Int))≤32) <;> rfl
  ·intro n i hi
   have hlt:(i:Int)≤3:=by omega
   have hw:=zd (i:=i) (by omega)
   simp only [zgd,hlt,y9,y7,z9w hk hc h (d:=(i:Int)) (by omega),y6,hw]
   by_cases c1:zh st (ofC c (i:Int))≤32
   ·rw [yc c1,yb (by omega),y5 (by simp),y4 rfl]
   ·rw [yb c1,yc (by omega),y4 rfl,y5 (by simp)]
  ·intro n
   have:¬ (((4:Nat):Int)≤3):=by omega
   simp only [zgd,this,yf,ya,y8]
 ·have h2:(st.all (fun x=>decide (0≤x∧x≤4-1))&&decide ((st.length:Int)=(c.length:Int)))=false:=by rw [y3w,ne_eq,z19o]; exact h
  rw [h2,y4 (by simp)]
  unfold stB
  rw [yb h]; rfl
theorem z1sg {k:Nat} (hk:KK≤k) {c:Cx} (hc:z55 c) {st:List Int} (hs:st.length≤1048576):zpl k c st=some (stB c st):=by
 have hK:=zf
 have hcf:zpk k st ()=some (st.any fun x=>!decide (0≤x∧x≤3)):=by
  unfold zpk ztu
  rw [zav (L:=fun n i=>zh2 k n st () (st.length:Int) i (some (-1))) (p:=fun x=>!decide (0≤x∧x≤3)) st ?_ ?_ (n:=k) (by omega)]
  ·rw [y6,zdo]
  ·intro n i x hi hlt
   have hw:=zd (i:=i) (by omega)
   simp only [zh2,ztt,z6m,hlt,y9,y7,yg,yd,hi,y6,hw]
  ·intro n
   simp [zh2]
 unfold zpl
 rw [hcf]
 simp only [y6]
 by_cases hl:st.length=c.length
 ·rw [yc (show (st.length:Int)=(c.length:Int) by omega),y5 (by simp)]
  by_cases hv:∀ x∈st,0≤x∧x≤3
  ·have h:StP c st:=⟨hl,hv⟩
   have ha:(st.any fun x=>!decide (0≤x∧x≤3))=false:=by
    rw [y3b]; intro x hx; simp [hv x hx]
   rw [ha,y5 (by simp)]
   have:=z4f (L:=fun n i=>zh4 k n st i c (some true)) (b:=4) (p:=fun d:Nat=>decide (zh st (ofC c (d:Int))≤32)) (r:=some false) (e:=some true) ?_ ?_ (n:=k) (by omega)
   ·rw [this]
    unfold stB
    rw [yc h,y1i]
    cases (List.range 4).all fun d=>decide (zh st (ofC c (d:Int))≤32) <;> rfl
   ·intro n i hi
    have hlt:(i:Int)<4:=by omega
    have hw:=zd (i:=i) (by omega)
    have hst:=z9x hk (s:=(c,0,st,[])) hc h (d:=(i:Int)) (by omega)
    simp only at hst
    simp only [zh4,hlt,y9,y7,hst,y6,hw]
    by_cases c1:zh st (ofC c (i:Int))≤32
    ·rw [yc c1,yb (by omega),y5 (by simp),y4 rfl]
    ·rw [yb c1,yc (by omega),y4 rfl,y5 (by simp)]
   ·intro n
    have:¬ (((4:Nat):Int)<4):=by omega
    simp only [zh4,this,yf,ya,y8]
  ·have ha:(st.any fun x=>!decide (0≤x∧x≤3))=true:=by
    rw [y37]
    apply y2p
    intro hn
    apply hv
    intro x hx
    apply y2p
    intro hx2
    exact hn ⟨x,hx,by simp only [y1k,decide_eq_false_iff_not]; exact hx2⟩
   rw [ha,y4 rfl]
   unfold stB
   rw [yb (fun h:StP c st=>hv h.val)]; rfl
 ·rw [yb (show ¬ (st.length:Int)=(c.length:Int) by omega),y4 (by simp)]
  unfold stB
  rw [yb (fun h:StP c st=>hl h.len)]; rfl
def zg (c:Cx) (s:List Int):List Nat:=(z23 s).map (z2s c)
theorem z19p (s:List Int):(z23 s).length=if 1<s.length then s.length else 0:=by
 unfold z23
 split
 ·rw [ym,y17]
 ·rfl
theorem z8k (c:Cx) (s:List Int):(zg c s).length=if 1<s.length then s.length else 0:=by unfold zg; rw [List.length_map,z19p]
theorem z19q {c:Cx} (h:CxP c) {s:List Int} (hs:s∈c) {f:Nat} (hf:f∈zg c s):f<c.length:=by
 unfold zg at hf
 obtain ⟨g,hg,rfl⟩:=y1c.1 hf
 obtain ⟨h1,j,hj,rfl⟩:=zk5.1 hg
 exact z9t.2 (h.face s hs h1 j hj)
theorem z2l {c:Cx} (h:CxP c):z55 c:=⟨by have:=h.len; omega,fun s hs=>by have:=(h.simp s hs).len4; omega⟩
theorem zqm {k:Nat} (hk:KK≤k) {c:Cx} (h:CxP c) {j:Nat} {s:List Int} (hj:c[j]?=some s):zgf k c (j:Int)=some ((zg c s).map fun i:Nat=>(i:Int)):=by
 have hK:=zf
 have hL:=z1r
 have hm:=yl hj
 have hs4:=(h.simp s hm).len4
 have hsc:=z2l h
 unfold zgf
 rw [y4 (yg _),yd,hj]
 simp only [y6]
 by_cases c1:1<s.length
 ·have:=z2b (α:=Nat) (A:=List Int) (L:=fun n i q=>zcr k n c s i q (fun q_5=>some q_5)) (I:=fun pre q=>q=(List.range pre.length).map fun i=>((z2s c (zy s i):Nat):Int)) (G:=fun _ _=>some ((zg c s).map fun i:Nat=>(i:Int))) (List.range s.length) ?_ ?_ k (by simp; omega) [] (by simp)
  ·exact this
  ·intro n pre x post q hx hq ih hg hlt
   rw [y17] at hlt
   have hpl:pre.length<s.length:=by omega
   have hw:=zd (i:=pre.length) (by omega)
   have hlim:(q.length+1)*8≤LIM:=by rw [hq,ym,y17]; omega
   have hin:=h.face s hm c1 pre.length hpl
   have c1':(1:Int)<(s.length:Int):=by omega
   simp only [zcr,hlt,c1',y9,y7,zqj (show s.length≤1048576 by omega) hpl,z19i hk hsc,z9t.2 hin,y6,yy,hlim,hw]
   refine ih _ ?_
   rw [hq,yk,yy,y30,y1z]
   rfl
  ·intro n q hq
   rw [y17] at hq ⊢
   simp only [zcr,yp,yf,ya,y8,hq]
   unfold zg z23
   rw [y4 c1,y34,y34]
   rfl
 ·obtain ⟨n,hn⟩:∃ n,k=n+1:=⟨k-1,by omega⟩
  have c1':¬ (1:Int)<(s.length:Int):=by omega
  conv=>lhs; arg 2; rw [hn]
  simp only [zcr,c1',yf,ya,y8]
  unfold zg z23
  rw [y5 c1]
  split <;> rfl
theorem zbe {k:Nat} (hk:KK≤k) {c:Cx} (h:CxP c) {j:Nat} {s:List Int} (hj:c[j]?=some s):z9p k c (j:Int)=some ((zg c s).map fun i:Nat=>(i:Int)):=by
 have hK:=zf
 have hL:=z1r
 have hm:=yl hj
 have hs4:=(h.simp s hm).len4
 have hsc:=z2l h
 have hfl:=z19p s
 have hfl':(z23 s).length≤4:=by rw [hfl]; split <;> omega
 unfold z9p
 rw [y4 (yg _),yd,hj]
 simp only [y6,z19k hk (show s.length≤1048576 by omega)]
 have:=z2b (α:=List Int) (A:=List Int) (L:=fun n i q=>zh5 k n ((z23 s).length:Int) i q (z23 s) c (fun q_8=>some q_8)) (I:=fun pre q=>q=pre.map fun f=>((z2s c f:Nat):Int)) (G:=fun _ _=>some ((zg c s).map fun i:Nat=>(i:Int))) (z23 s) ?_ ?_ k (by omega) [] rfl
 ·exact this
 ·intro n pre x post q hx hq ih hg hlt
  have hpl:pre.length<(z23 s).length:=by omega
  have hw:=zd (i:=pre.length) (by omega)
  have hlim:(q.length+1)*8≤LIM:=by rw [hq,ym]; omega
  obtain ⟨h1,i,hi,rfl⟩:=zk5.1 (yl hg)
  have hin:=h.face s hm h1 i hi
  simp only [zh5,hlt,hpl,y9,y7,yg,yd,yw,hg,z19n hk hsc h.ord (show (zy s i).length≤1048576 by rw [z8i hi]; omega),z9t.2 hin,y6,yy,hlim,hw]
  exact ih _ (by rw [hq,y1z]; rfl)
 ·intro n q hq
  simp only [zh5,yp,yf,ya,y8,hq]
  unfold zg
  rw [y34]
  rfl
def z3l (c:Cx) (j:Nat):List (Nat×Nat×Nat):=match c[j]? with
 | some s=>(List.range (zg c s).length).map fun i=>(j,i,(zg c s).getD i 0)
 | none=>[]
def zn (c:Cx) (n:Nat):List (Nat×Nat×Nat):=(List.range n).flatMap (z3l c)
theorem zdu (c:Cx) (n:Nat):zn c (n+1)=zn c n++z3l c n:=by unfold zn; rw [List.range_succ,List.flatMap_append]; simp
theorem zqn {c:Cx} {j:Nat} {s:List Int} (hj:c[j]?=some s):(z3l c j).length=if 1<s.length then s.length else 0:=by
 unfold z3l; rw [hj]; simp only [List.length_map,List.length_range,z8k]
theorem z19r {c:Cx} {j i:Nat} {s:List Int} (hj:c[j]?=some s) (hi:i<(zg c s).length):(z3l c j)[i]?=some (j,i,(zg c s).getD i 0):=by
 unfold z3l; rw [hj]; simp only [List.getElem?_map,List.getElem?_range hi]; rfl
theorem z9y {c:Cx} (h:CxP c):∀ n,n≤c.length→(zn c n).length≤4*n
 | 0,_=>by simp [zn]
 | n+1,hn=>by
  have ih:=z9y h n (by omega)
  have hg:c[n]?=some c[n]:=yh (by omega)
  have h4:=(h.simp _ (yl hg)).len4
  rw [zdu,yk,zqn hg]
  split <;> omega
theorem z1sh (c:Cx) {a b:Nat} (h:a≤b):(zn c a).length≤(zn c b).length:=by
 induction b with
 | zero=>rw [show a=0 by omega]; exact yx _
 | succ b ih =>
  by_cases e:a=b+1
  ·rw [e]; exact yx _
  ·have:=ih (by omega)
   rw [zdu,yk]; omega
theorem zuv {k:Nat} (hk:KK≤k) {c:Cx} (h:CxP c) {j i:Nat} (hj:j≤c.length) (hi:i≤4):zge k c (j:Int) (i:Int)=some (((zn c j).length+i:Nat):Int):=by
 have hK:=zf
 have hcl:=h.len
 unfold zge
 have:=z2b (α:=Nat) (A:=Int) (L:=fun n p z=>zcq k n c (j:Int) (i:Int) z p (fun i_3 at_4=>some (z6 (at_4+i_3)))) (I:=fun pre z=>z=((zn c pre.length).length:Int)) (G:=fun _ _=>some (((zn c j).length+i:Nat):Int)) (List.range j) ?_ ?_ k (by simp; omega) 0 rfl
 ·exact this
 ·intro n pre x post z hx hz ih hg hlt
  rw [y17] at hlt
  have hpl:pre.length<c.length:=by omega
  have hw:=zd (i:=pre.length) (by omega)
  have hgc:c[pre.length]?=some c[pre.length]:=yh hpl
  have h4:=(h.simp _ (yl hgc)).len4
  have hal:=z9y h pre.length (by omega)
  have hnx:(zn c (pre.length+1)).length=(zn c pre.length).length+(if 1<(c[pre.length]).length then (c[pre.length]).length else 0):=by rw [zdu,yk,zqn hgc]
  simp only [zcq,hlt,y9,y7,yg,yd,hgc,y6,hw]
  by_cases c1:1<(c[pre.length]).length
  ·have hwz:z6 (z+((c[pre.length]).length:Int))=z+((c[pre.length]).length:Int):=ze (by omega) (by omega)
   rw [yc (by omega),y4 rfl,hwz]
   refine ih _ ?_
   rw [y4 c1] at hnx
   rw [yk,yy,hnx,hz]; rfl
  ·rw [yb (by omega),y5 (by simp)]
   refine ih _ ?_
   rw [y5 c1] at hnx
   rw [yk,yy,hnx,hz]; rfl
 ·intro n z hz
  rw [y17] at hz ⊢
  have hal:=z9y h j hj
  have hwz:z6 (z+(i:Int))=(((zn c j).length+i:Nat):Int):=by rw [ze (by omega) (by omega)]; omega
  simp only [zcq,yp,yf,ya,y8,hwz]
def z6p (a:Nat×Nat×Nat):Int×Int×Int:=((a.1:Int),(a.2.1:Int),(a.2.2:Int))
theorem z1si {k:Nat} (hk:KK≤k) {c:Cx} (h:CxP c):zpm k c=some ((zn c c.length).map z6p):=by
 have hK:=zf
 have hL:=z1r
 have hcl:=h.len
 unfold zpm ztw
 simp only [y6]
 have:=z2b (α:=List Int) (A:=List (Int×Int×Int)) (L:=fun n i q=>zh6 k n (c.length:Int) i q c (fun q_8=>some q_8)) (I:=fun pre q=>q=(zn c pre.length).map z6p) (G:=fun _ _=>some ((zn c c.length).map z6p)) c ?_ ?_ k (by omega) [] rfl
 ·exact this
 ·intro n pre x post q hx hq ih hg hlt
  have hw:=zd (i:=pre.length) (by omega)
  have hpl:pre.length<c.length:=by omega
  have h4:=(h.simp _ (yl hg)).len4
  have hal:=z9y h pre.length (by omega)
  have hfl:=z8k c x
  have hfl4:(zg c x).length≤4:=by rw [hfl]; split <;> omega
  simp only [zh6,hlt,y9,y7,zbe hk h hg,y6,ym]
  have inner:∀ E:Int→Int→List (Int×Int×Int)→Cx→Option (List (Int×Int×Int)),zde k k (pre.length:Int) (c.length:Int) (pre.length:Int) ((zg c x).length:Int) 0 q ((zg c x).map fun i:Nat=>(i:Int)) c E=E (c.length:Int) (pre.length:Int) ((zn c (pre.length+1)).map z6p) c:=by
   intro E
   have:=z2b (α:=Nat) (A:=List (Int×Int×Int)) (L:=fun n i r=>zde k n (pre.length:Int) (c.length:Int) (pre.length:Int) ((zg c x).length:Int) i r ((zg c x).map fun i:Nat=>(i:Int)) c E) (I:=fun pre2 r=>r=((zn c pre.length)++(List.range pre2.length).map fun i=>(pre.length,i,(zg c x).getD i 0)).map z6p) (G:=fun _ _=>E (c.length:Int) (pre.length:Int) ((zn c (pre.length+1)).map z6p) c) (zg c x) ?_ ?_ k (by omega) q (by simp [hq])
   ·exact this
   ·intro n pre2 f post2 r hx2 hr ih2 hg2 hlt2
    have hpl2:pre2.length<(zg c x).length:=by omega
    have hw2:=zd (i:=pre2.length) (by omega)
    have hF:((zg c x).map fun i:Nat=>(i:Int))[pre2.length]?=some (f:Int):=by rw [yr,hg2]; rfl
    have hlim:(r.length+1)*24≤LIM:=by rw [hr,ym,yk,ym,y17]; omega
    have hgd:(zg c x).getD pre2.length 0=f:=by rw [y15,hg2]; rfl
    simp only [zde,ym,hlt2,hpl2,y9,y7,yg,yd,yw,hF,y6,yy,hlim,hw2]
    refine ih2 _ ?_
    rw [hr,yk,yy,y30,y1z (l₁:=List.range pre2.length),← y12,y1z (f:=z6p) (l₁:=zn c pre.length++_)]
    show _=_++[z6p (pre.length,pre2.length,(zg c x).getD pre2.length 0)]
    rw [hgd]; rfl
   ·intro n r hr
    have e:z3l c pre.length=(List.range (zg c x).length).map fun i=>(pre.length,i,(zg c x).getD i 0):=by unfold z3l; rw [hg]
    simp only [zde,yp,yf,ya,y8,hr]
    rw [zdu,e]
  rw [inner,hw]
  exact ih _ (by rw [yk,yy])
 ·intro n q hq
  simp only [zh6,yp,yf,ya,y8,hq]
noncomputable def zbf (k:Nat) (m:Mat):Bool:=(zgg k m).getD false
theorem zuw {k:Nat} (hk:KK≤k) {m:Mat} (hv:m.2.2.2.length≤1048576):zgg k m=some (zbf k m)∧zjw k m=some (zbf k m)∧(zbf k m=true→∃ R C,MatP m R C):=by
 obtain ⟨b,h1,h2,h3⟩:=z1rg hk hv
 have e:zbf k m=b:=by unfold zbf; rw [h1]; rfl
 rw [e]
 exact ⟨h1,h2,h3⟩
noncomputable def zbg (k:Nat) (p:Int):Bool:=(zco k p).getD false
theorem zux {k:Nat} (hk:KK≤k) (p:Int):zco k p=some (zbg k p)∧zh1 k p=some (zbg k p)∧(zbg k p=true→2≤p∧p≤251):=by
 obtain ⟨b,h1,h2,h3⟩:=z18m hk p
 have e:zbg k p=b:=by unfold zbg; rw [h1]; rfl
 rw [e]
 exact ⟨h1,h2,h3⟩
noncomputable def okA (k:Nat) (s:She) (a:Nat×Nat×Nat) (m:Mat):Bool:=zbf k m&&(decide (m.1=s.2.1)&&(decide (m.2.1=s.2.2.1.getD a.1 0)&&decide (m.2.2.1=s.2.2.1.getD a.2.2 0)))
noncomputable def z9z (k:Nat) (s:She) (o:Nat) (l:List (Nat×Nat×Nat)) (i:Nat):Bool:=match l[i]? with
 | some a=>(match s.2.2.2[o+i]? with | some m=>okA k s a m | none=>false)
 | none=>true
def chk (k:Nat) (s:She) (o:Nat) (l:List (Nat×Nat×Nat)):Prop:=∀ j a,l[j]?=some a→∃ m,s.2.2.2[o+j]?=some m∧okA k s a m=true
theorem z19s {k:Nat} {s:She} {o:Nat} {l:List (Nat×Nat×Nat)}:(List.range l.length).all (z9z k s o l)=true↔chk k s o l:=by
 simp only [y16,y19]
 constructor
 ·intro z i a ha
  have:=z i (yo.1 ha).1
  unfold z9z at this
  rw [ha] at this
  cases hm:s.2.2.2[o+i]? with
  | none=>rw [hm] at this; cases this
  | some m=>rw [hm] at this; exact ⟨m,rfl,this⟩
 ·intro z i hi
  obtain ⟨m,h1,h2⟩:=z i _ (yh hi)
  unfold z9z
  rw [yh hi,h1]
  exact h2
theorem z1sj {k:Nat} {s:She} {o:Nat} {l r:List (Nat×Nat×Nat)}:chk k s o (l++r)↔chk k s o l∧chk k s (o+l.length) r:=by
 constructor
 ·intro h
  refine ⟨fun j a hj=>h j a (by rw [y1w (yo.1 hj).1]; exact hj),fun j a hj=>?_⟩
  have:=h (l.length+j) a (by rw [y1r (by omega),y3j]; exact hj)
  rwa [← y47] at this
 ·rintro ⟨h1,h2⟩ j a hj
  by_cases c:j<l.length
  ·rw [y1w c] at hj; exact h1 j a hj
  ·rw [y1r (by omega)] at hj
   have:=h2 (j-l.length) a hj
   rwa [show o+l.length+(j-l.length)=o+j by omega] at this
theorem zuy {k:Nat} {s:She}:∀ n,(∀ j,j<n→chk k s (zn s.1 j).length (z3l s.1 j))↔chk k s 0 (zn s.1 n)
 | 0=>by
  constructor
  ·intro _ j a hj; simp [zn] at hj
  ·intro _ j hj; omega
 | n+1=>by
  rw [zdu,z1sj,← zuy n,y1a]
  constructor
  ·intro h; exact ⟨fun j hj=>h j (by omega),h n (by omega)⟩
  ·rintro ⟨h1,h2⟩ j hj
   by_cases e:j=n
   ·subst e; exact h2
   ·exact h1 j (by omega)
open Classical in
noncomputable def zz (k:Nat) (s:She):Bool:=cxB s.1&&(zbg k s.2.1&&(stB s.1 s.2.2.1&&decide (s.2.2.2.length=(zn s.1 s.1.length).length∧chk k s 0 (zn s.1 s.1.length))))
structure smallSh (s:She):Prop where
 cx:z55 s.1
 st:s.2.2.1.length≤1048576
 maps:s.2.2.2.length≤1048576
 cells:∀ m∈s.2.2.2,m.2.2.2.length≤1048576
theorem z1sk {c:Cx} (h:CxP c) {n j:Nat} {a:Nat×Nat×Nat} (hn:n≤c.length) (hj:(zn c n)[j]?=some a):a.1<c.length∧a.2.2<c.length:=by
 have hm:=yl hj
 unfold zn at hm
 obtain ⟨i,hi,ha⟩:=y1h.1 hm
 rw [y19] at hi
 have hg:c[i]?=some c[i]:=yh (by omega)
 unfold z3l at ha
 rw [hg] at ha
 obtain ⟨p,hp,rfl⟩:=y1c.1 ha
 rw [y19] at hp
 refine ⟨by show i<_; omega,z19q h (yl hg) ?_⟩
 show (zg c c[i]).getD p 0∈_
 rw [y15,yh hp]
 exact y1e hp
open Classical in
theorem z1sl {k:Nat} (hk:KK≤k) {s:She} (hs:smallSh s):zob k s=some (zz k s):=by
 have hK:=zf
 unfold zob zz
 obtain ⟨p1,p2,p3⟩:=zux hk s.2.1
 rw [z1sb hk hs.cx,p1,z1sf hk hs.cx hs.st]
 cases hcx:cxB s.1 with
 | false=>simp
 | true =>
 cases zbg k s.2.1 with
 | false=>simp
 | true =>
 cases hst:stB s.1 s.2.2.1 with
 | false=>simp
 | true =>
  have h:=zbd.1 hcx
  have hS:=zuu hst
  have hcl:=h.len
  have hal:=z9y h s.1.length (yx _)
  have hcount:zoa k s.1=some ((zn s.1 s.1.length).length:Int):=by
   unfold zoa
   have:=zuv hk h (j:=s.1.length) (i:=0) (yx _) (by omega)
   rw [y2q] at this
   rw [show ((0:Nat):Int)=0 from rfl] at this
   rw [this]; rfl
  simp only [y6,y10,ya,y8,hcount,y1i]
  by_cases hN:s.2.2.2.length=(zn s.1 s.1.length).length
  ·rw [yc (show (s.2.2.2.length:Int)=((zn s.1 s.1.length).length:Int) by omega),y5 (by simp)]
   have:=z4f (L:=fun n i=>zb0 k n s i (some true)) (b:=s.1.length) (p:=fun j=>decide (chk k s (zn s.1 j).length (z3l s.1 j))) (r:=some false) (e:=some true) ?_ ?_ (n:=k) (by omega)
   ·rw [this]
    have e:((List.range s.1.length).all (fun j=>decide (chk k s (zn s.1 j).length (z3l s.1 j)))=true)↔chk k s 0 (zn s.1 s.1.length):=by
     rw [← zuy]
     simp only [y16,y19,y18]
    by_cases q:chk k s 0 (zn s.1 s.1.length)
    ·rw [y4 (e.2 q),yc ⟨hN,q⟩]
    ·rw [y5 (fun z=>q (e.1 z)),yb (fun z=>q z.2)]
   ·intro n j hj
    have hlt:(j:Int)<(s.1.length:Int):=by omega
    have hw:=zd (i:=j) (by omega)
    have hg:s.1[j]?=some s.1[j]:=yh hj
    have hm:=yl hg
    have h4:=(h.simp _ hm).len4
    have hbl:=zqn hg
    have hnx:(zn s.1 (j+1)).length=(zn s.1 j).length+(z3l s.1 j).length:=by rw [zdu,yk]
    have hmono:=z1sh s.1 (show j+1≤s.1.length by omega)
    have haj:=z9y h j (by omega)
    have hfl:=z8k s.1 s.1[j]
    simp only [zb0,hlt,y9,y7]
    have inner:=z4f (L:=fun m i=>zgh k m s (j:Int) i (fun s_5 k_6=>zb0 k n s_5 (z6 (k_6+1)) (some true))) (b:=(z3l s.1 j).length) (p:=z9z k s (zn s.1 j).length (z3l s.1 j)) (r:=some false) (e:=zb0 k n s ((j+1:Nat):Int) (some true)) ?_ ?_ (n:=k) (by rw [hbl]; split <;> omega)
    ·refine Eq.trans inner ?_
     have e:=z19s (k:=k) (s:=s) (o:=(zn s.1 j).length) (l:=z3l s.1 j)
     by_cases q:chk k s (zn s.1 j).length (z3l s.1 j)
     ·rw [y4 (e.2 q),y4 (yc q)]
     ·rw [if_neg (fun z=>q (e.1 z)),if_neg (by simpa using q)]
    ·intro m i hi
     have h1:1<(s.1[j]).length:=by
      apply y2p
      intro hn
      rw [hbl,y5 hn] at hi; omega
     rw [y4 h1] at hbl hfl
     have hil:i<(s.1[j]).length:=by omega
     have hil':(i:Int)<((s.1[j]).length:Int):=by omega
     have h1':(1:Int)<((s.1[j]).length:Int):=by omega
     have hw2:=zd (i:=i) (by omega)
     have hml:(zn s.1 j).length+i<s.2.2.2.length:=by omega
     have hgm:s.2.2.2[(zn s.1 j).length+i]?=some s.2.2.2[(zn s.1 j).length+i]:=yh hml
     have hcells:=hs.cells _ (yl hgm)
     have hfi:i<(zg s.1 s.1[j]).length:=by omega
     have hga:=z19r hg hfi
     have hgd:(zg s.1 s.1[j])[i]?=some ((zg s.1 s.1[j]).getD i 0):=by rw [y15,yh hfi]; rfl
     have hF:((zg s.1 s.1[j]).map fun i:Nat=>(i:Int))[i]?=some (((zg s.1 s.1[j]).getD i 0:Nat):Int):=by rw [yr,hgd]; rfl
     have hflt:(zg s.1 s.1[j]).getD i 0<s.1.length:=z19q h hm (yl hgd)
     obtain ⟨s1,_⟩:=z7k hS hj
     obtain ⟨s2,_⟩:=z7k hS hflt
     simp only [zgh,ztg,yg,y7,yd,hg,y6,hil',h1',y9,zuv hk h (show j≤s.1.length by omega) (show i≤4 by omega),hgm,zqm hk h hg,ym,hfi,yw,hF,(zuw hk hcells).1,s1,s2,hw2]
     have e:z9z k s (zn s.1 j).length (z3l s.1 j) i=okA k s (j,i,(zg s.1 s.1[j]).getD i 0) s.2.2.2[(zn s.1 j).length+i]:=by unfold z9z; rw [hga,hgm]
     rw [e]
     unfold okA
     generalize s.2.2.2[(zn s.1 j).length+i]=mm
     generalize hv:s.2.2.1.getD ((zg s.1 s.1[j]).getD i 0) 0=v
     generalize hu:s.2.2.1.getD j 0=u
     clear hv hu
     cases zbf k mm
     ·simp
     ·by_cases q1:mm.1=s.2.1
      ·by_cases q2:mm.2.1=u
       ·by_cases q3:mm.2.2.1=v <;> simp [q1,q2,q3]
       ·simp [q1,q2]
      ·simp [q1]
    ·intro m
     have hstop:¬ (((z3l s.1 j).length:Int)<((s.1[j]).length:Int)∧(1:Int)<((s.1[j]).length:Int)):=by
      rw [hbl]; split <;> omega
     simp only [zgh,yg,y7,yd,hg,y6,hw]
     by_cases q1:((z3l s.1 j).length:Int)<((s.1[j]).length:Int)
     ·have q2:¬ (1:Int)<((s.1[j]).length:Int):=fun z=>hstop ⟨q1,z⟩
      rw [yc q1,y4 rfl,yb q2,y5 (by simp)]
     ·rw [yb q1,y5 (by simp)]
   ·intro n
    simp only [zb0,yp,yf,ya,y8]
  ·rw [yb (show ¬ (s.2.2.2.length:Int)=((zn s.1 s.1.length).length:Int) by omega),y4 (by simp),yb (fun z=>hN z.1)]
open Classical in
theorem z1sm {k:Nat} (hk:KK≤k) {s:She} (hs:smallSh s):zpp k s=some (zz k s):=by
 have hK:=zf
 unfold zpp zz
 obtain ⟨p1,p2,p3⟩:=zux hk s.2.1
 rw [z1se hk hs.cx,p2,z1sg hk hs.cx hs.st]
 cases hcx:cxB s.1 with
 | false=>simp
 | true =>
 cases zbg k s.2.1 with
 | false=>simp
 | true =>
 cases hst:stB s.1 s.2.2.1 with
 | false=>simp
 | true =>
  have h:=zbd.1 hcx
  have hS:=zuu hst
  have hcl:=h.len
  have hal:=z9y h s.1.length (yx _)
  simp only [y6,y10,ya,y8,z1si hk h,y1i,ym]
  have:=z4f (L:=fun n i=>zh8 k n ((zn s.1 s.1.length).length:Int) i ((zn s.1 s.1.length).map z6p) s (fun q_11 v_12=>some (decide ((List.length q_11:Int)=(List.length v_12.2.2.2:Int))))) (b:=(zn s.1 s.1.length).length) (p:=z9z k s 0 (zn s.1 s.1.length)) (r:=some false) (e:=some (decide ((zn s.1 s.1.length).length=s.2.2.2.length))) ?_ ?_ (n:=k) (by omega)
  ·rw [this]
   have e:=z19s (k:=k) (s:=s) (o:=0) (l:=zn s.1 s.1.length)
   by_cases q:chk k s 0 (zn s.1 s.1.length)
   ·rw [y4 (e.2 q)]
    congr 1
    exact decide_eq_decide.2 ⟨fun z=>⟨z.symm,q⟩,fun z=>z.1.symm⟩
   ·rw [y5 (fun z=>q (e.1 z)),yb (fun z=>q z.2)]
  ·intro n i hi
   have hlt:(i:Int)<((zn s.1 s.1.length).length:Int):=by omega
   have hw:=zd (i:=i) (by omega)
   have hg:(zn s.1 s.1.length)[i]?=some (zn s.1 s.1.length)[i]:=yh hi
   have hF:((zn s.1 s.1.length).map z6p)[i]?=some (z6p (zn s.1 s.1.length)[i]):=by rw [yr,hg]; rfl
   obtain ⟨a1,a2⟩:=z1sk h (yx _) hg
   obtain ⟨s1,_⟩:=z7k hS a1
   obtain ⟨s2,_⟩:=z7k hS a2
   have hch:z9z k s 0 (zn s.1 s.1.length) i=(match s.2.2.2[i]? with | some m=>okA k s (zn s.1 s.1.length)[i] m | none=>false):=by unfold z9z; rw [hg,Nat.zero_add]
   rw [hch]
   generalize (zn s.1 s.1.length)[i]=a at hF s1 s2
   simp only [zh8,ym,hlt,hi,y9,y7,yg,yd,yw,hF,y6,hw,z6p]
   by_cases hml:i<s.2.2.2.length
   ·have hgm:s.2.2.2[i]?=some s.2.2.2[i]:=yh hml
    have hcells:=hs.cells _ (yl hgm)
    rw [yb (by omega),y5 (by simp),hgm,s1,s2]
    simp only [y6,zu2,(zuw hk hcells).2.1]
    show _=if okA k s a s.2.2.2[i]=true then _ else _
    unfold okA
    generalize s.2.2.2[i]=mm
    generalize s.2.2.1.getD a.1 0=u
    generalize s.2.2.1.getD a.2.2 0=v
    cases zbf k mm
    ·simp
    ·by_cases q1:mm.1=s.2.1
     ·by_cases q2:mm.2.1=u
      ·by_cases q3:mm.2.2.1=v <;> simp [q1,q2,q3]
      ·simp [q1,q2]
     ·simp [q1]
   ·rw [yc (by omega),y4 rfl,y2r (by omega)]
    rfl
  ·intro n
   simp only [zh8,yp,yf,ya,y8,ym]
   exact congrArg some (decide_eq_decide.2 (by omega))
def z28 (v:List Int) (n p:Int):Bool:=v.all (fun x=>decide (0≤x∧x≤p-1))&&decide ((v.length:Int)=n)
theorem zuz {k:Nat} (hk:KK≤k) {v:List Int} (hv:v.length≤1048576) (n:Int) {p:Int} (hp : -1000000≤p∧p≤1000000):zh9 k v n p=some (z28 v n p):=by
 unfold zh9 z8a z28
 simp only [y6,zum hk hv hp]
 by_cases c:(v.length:Int)=n
 ·rw [yc c,y4 rfl,y4w]
 ·rw [yb c,y5 (by simp),y50]
theorem z1b {k:Nat} (hk:KK≤k) {s:She} (h:zz k s=true):CxP s.1∧(2≤s.2.1∧s.2.1≤251)∧StP s.1 s.2.2.1:=by
 unfold zz at h
 simp only [yi] at h
 exact ⟨zbd.1 h.1,(zux hk s.2.1).2.2 h.2.1,zuu h.2.2.1⟩
def z2c (f:Nat→Int):Nat→Int
 | 0=>0
 | n+1=>z2c f n+f n
theorem zk8 {f:Nat→Int} {B:Int} (h:∀ t,0≤f t∧f t≤B):∀ n:Nat,0≤z2c f n∧z2c f n≤(n:Int)*B
 | 0=>by simp [z2c]
 | n+1=>by
  have h1:=zk8 h n
  have h2:=h n
  have e:((n+1:Nat):Int)*B=(n:Int)*B+B:=by rw [Int.natCast_add,Int.add_mul]; simp
  show 0≤z2c f n+f n∧z2c f n+f n≤_
  rw [e]; omega
def z6c (a b:List Int) (K C i j t:Nat):Int:=a.getD (i*K+t) 0*b.getD (t*C+j) 0
def z4j (a b:List Int) (K C:Nat) (p:Int) (i j:Nat):Int:=z2c (z6c a b K C i j) K % p
def z1i (e:Nat→Nat→Int) (C:Nat):Nat→List Int
 | 0=>[]
 | R+1=>z1i e C R++(List.range C).map (e R)
theorem za0 (e:Nat→Nat→Int) (C:Nat):∀ R,(z1i e C R).length=R*C
 | 0=>by simp [z1i]
 | R+1=>by
  show (z1i e C R++(List.range C).map (e R)).length=_
  rw [yk,za0 e C R,ym,y17,y2d]
def zdv (a b:Mat) (R K C:Nat):Mat:=(a.1,(R:Int),(C:Int),z1i (z4j a.2.2.2 b.2.2.2 K C a.1) C R)
theorem zqo {R C i j:Nat} (hi:i<R) (hj:j<C):i*C+j<R*C:=by
 have:(i+1)*C≤R*C:=y24 _ hi
 rw [y2d] at this
 omega
theorem zk9 {m:Mat} {R C:Nat} (h:MatP m R C) (x:Nat):0≤m.2.2.2.getD x 0∧m.2.2.2.getD x 0≤250:=by
 rw [y15]
 cases hx:m.2.2.2[x]? with
 | none=>simp
 | some y=>exact h.cells y (yl hx)
theorem zhn {m:Mat} {R C:Nat} (h:MatP m R C) {i j:Nat} (hi:i<R) (hj:j<C):m.2.2.2[i*C+j]?=some (m.2.2.2.getD (i*C+j) 0):=by
 have hl:i*C+j<m.2.2.2.length:=by rw [h.len]; exact zqo hi hj
 rw [y15,yh hl]; rfl
theorem zqp {a b:Mat} {R K C:Nat} (ha:MatP a R K) (hb:MatP b K C) (i j t:Nat):0≤z6c a.2.2.2 b.2.2.2 K C i j t∧z6c a.2.2.2 b.2.2.2 K C i j t≤62500:=by
 have h1:=zk9 ha (i*K+t)
 have h2:=zk9 hb (t*C+j)
 unfold z6c
 exact ⟨y3k h1.1 h2.1,by have:=y4k h1.2 h2.2 h2.1 (by omega); omega⟩
theorem z6q {i C:Nat} (h:i≤32) (hC:C≤32):z6 ((i:Int)*(C:Int))=((i*C:Nat):Int):=by
 have:i*C≤32*32:=y1p h hC
 rw [← y3s,ze (by omega) (by omega)]
theorem z1sn (A:List Int) (m:Nat) (v:Int):(A++List.replicate (m+1) 0).set A.length v=(A++[v])++List.replicate m 0:=by
 rw [List.replicate_succ,y6a _ _ (yx _),y45,List.set_cons_zero,y12]; rfl
theorem z19t {k:Nat} (hk:KK≤k) {a b:Mat} {R K C:Nat} (ha:MatP a R K) (hb:MatP b K C):zjl k a b=some (zdv a b R K C):=by
 have hK:=zf
 have hL:=z1r
 have hR:=ha.r32
 have hKK:=ha.c32
 have hC:=hb.c32
 have hp:=ha.prime
 have hRC:R*C≤32*32:=y1p hR hC
 unfold zjl zgi
 rw [ha.rows,hb.cols,z6q hR hC,y4 ⟨by omega,by omega,by omega⟩]
 simp only [y6,yd]
 have sum:∀ (i j:Nat),i<R→j<C→∀ (q6 q7:List Int) (u1 u2 u3 u4 u5 u6:Int) (E:Mat→Mat→Int→Int→Int→List Int→List Int→Int→Int→Int→Int→Int→Int→Option Mat),zcs k k a b (i:Int) (j:Int) 0 0 q6 q7 u1 u2 u3 u4 u5 u6 E=E a b (i:Int) (j:Int) (z2c (z6c a.2.2.2 b.2.2.2 K C i j) K) q6 q7 u1 u2 u3 u4 u5 u6:=by
  intro i j hi hj q6 q7 u1 u2 u3 u4 u5 u6 E
  refine z2b (α:=Nat) (A:=Int) (L:=fun n t z=>zcs k n a b (i:Int) (j:Int) z t q6 q7 u1 u2 u3 u4 u5 u6 E) (I:=fun pre z=>z=z2c (z6c a.2.2.2 b.2.2.2 K C i j) pre.length) (G:=fun _ _=>E a b (i:Int) (j:Int) (z2c (z6c a.2.2.2 b.2.2.2 K C i j) K) q6 q7 u1 u2 u3 u4 u5 u6) (List.range K) ?_ ?_ k (by simp; omega) 0 rfl |> fun h=>h
  ·intro n pre x post z _ hz ih _ hlt
   rw [y17] at hlt
   have ht:pre.length<K:=by omega
   have hw:=zd (i:=pre.length) (by omega)
   have hik:i*K≤32*32:=y1p (by omega) (by omega)
   have htc:pre.length*C≤32*32:=y1p (by omega) (by omega)
   have w1:z6 (z6 ((i:Int)*(K:Int))+(pre.length:Int))=((i*K+pre.length:Nat):Int):=by rw [z6q (by omega) hKK,ze (by omega) (by omega)]; omega
   have w2:z6 (z6 ((pre.length:Int)*(C:Int))+(j:Int))=((pre.length*C+j:Nat):Int):=by rw [z6q (by omega) hC,ze (by omega) (by omega)]; omega
   have tb:=zqp ha hb i j pre.length
   have sb:=zk8 (fun t=>zqp ha hb i j t) pre.length
   have w3:z6 (a.2.2.2.getD (i*K+pre.length) 0*b.2.2.2.getD (pre.length*C+j) 0)=z6c a.2.2.2 b.2.2.2 K C i j pre.length:=by
    show z6 (z6c a.2.2.2 b.2.2.2 K C i j pre.length)=_
    exact ze (by omega) (by omega)
   have w4:z6 (z+z6c a.2.2.2 b.2.2.2 K C i j pre.length)=z+z6c a.2.2.2 b.2.2.2 K C i j pre.length:=by rw [hz]; exact ze (by omega) (by omega)
   simp only [zcs,ha.cols,hb.cols,hlt,y9,y7,w1,w2,yg,yd,zhn ha hi ht,zhn hb ht hj,y6,w3,w4,hw]
   exact ih _ (by rw [hz,yk,yy]; rfl)
  ·intro n z hz
   subst hz
   simp only [zcs,ha.cols,y17,yp,yf,ya,y8]
 have row:∀ (i:Nat),i<R→∀ (q5:List Int) (u1 u2 u3 u4 u5 u6:Int) (E:Mat→Mat→Int→List Int→List Int→Int→Int→Int→Int→Int→Int→Option Mat),zct k k a b (i:Int) 0 q5 (z1i (z4j a.2.2.2 b.2.2.2 K C a.1) C i++List.replicate (R*C-i*C) 0) u1 u2 u3 u4 u5 u6 E=E a b (i:Int) q5 (z1i (z4j a.2.2.2 b.2.2.2 K C a.1) C (i+1)++List.replicate (R*C-(i+1)*C) 0) u1 u2 u3 u4 u5 u6:=by
  intro i hi q5 u1 u2 u3 u4 u5 u6 E
  have hb1:(i+1)*C≤R*C:=y24 _ hi
  have hs:(i+1)*C=i*C+C:=y2d i C
  refine z2b (α:=Nat) (A:=List Int) (L:=fun n j q=>zct k n a b (i:Int) j q5 q u1 u2 u3 u4 u5 u6 E) (I:=fun pre q=>q=(z1i (z4j a.2.2.2 b.2.2.2 K C a.1) C i++(List.range pre.length).map (z4j a.2.2.2 b.2.2.2 K C a.1 i))++List.replicate (R*C-(i*C+pre.length)) 0) (G:=fun _ _=>E a b (i:Int) q5 (z1i (z4j a.2.2.2 b.2.2.2 K C a.1) C (i+1)++List.replicate (R*C-(i+1)*C) 0) u1 u2 u3 u4 u5 u6) (List.range C) ?_ ?_ k (by simp; omega) _ (by simp) |> fun h=>h
  ·intro n pre x post q _ hq ih _ hlt
   rw [y17] at hlt
   have hj:pre.length<C:=by omega
   have hw:=zd (i:=pre.length) (by omega)
   have hic:i*C≤32*32:=y1p (by omega) (by omega)
   have w1:z6 (z6 ((i:Int)*(C:Int))+(pre.length:Int))=((i*C+pre.length:Nat):Int):=by rw [z6q (by omega) hC,ze (by omega) (by omega)]; omega
   have hal:(z1i (z4j a.2.2.2 b.2.2.2 K C a.1) C i++(List.range pre.length).map (z4j a.2.2.2 b.2.2.2 K C a.1 i)).length=i*C+pre.length:=by rw [yk,za0,ym,y17]
   have hql:q.length=R*C:=by rw [hq,yk,hal,y23]; omega
   have hlq:i*C+pre.length<q.length:=by rw [hql]; exact zqo hi hj
   have sb:=zk8 (fun t=>zqp ha hb i pre.length t) K
   have hm:Int.tmod (z2c (z6c a.2.2.2 b.2.2.2 K C i pre.length) K) a.1=z4j a.2.2.2 b.2.2.2 K C a.1 i pre.length:=y2t sb.1
   simp only [zct,hb.cols,hlt,y9,y7,sum i pre.length hi hj,show ¬ a.1=0 by omega,y8,w1,yg,yd,hlq,yw,yh hlq,y6,hm,hw]
   refine ih _ ?_
   rw [hq,show R*C-(i*C+pre.length)=(R*C-(i*C+(pre.length+1)))+1 by omega,← hal,z1sn,yk,yy,y30,y1z,y12 (z1i _ C i)]
   rfl
  ·intro n q hq
   subst hq
   simp only [zct,hb.cols,y17,yp,yf,ya,y8]
   rw [hs]
   rfl
 have:=z2b (α:=Nat) (A:=List Int) (L:=fun n i q=>zgj k n a b i [] q 0 0 0 a.1 (R:Int) (C:Int) (fun q_15 q_16 v_4a_17 v_4ba_18 v_4bba_19 v_5a_20 v_5ba_21 v_5bba_22=>some (v_5a_20,(v_5ba_21,(v_5bba_22,q_16))))) (I:=fun pre q=>q=z1i (z4j a.2.2.2 b.2.2.2 K C a.1) C pre.length++List.replicate (R*C-pre.length*C) 0) (G:=fun _ _=>some (zdv a b R K C)) (List.range R) ?_ ?_ k (by simp; omega) (List.replicate (R*C) 0) (by simp [z1i])
 ·exact this
 ·intro n pre x post q _ hq ih _ hlt
  rw [y17] at hlt
  have hi:pre.length<R:=by omega
  have hw:=zd (i:=pre.length) (by omega)
  subst hq
  simp only [zgj,ha.rows,hlt,y9,y7,row pre.length hi,hw]
  exact ih _ (by rw [yk,yy])
 ·intro n q hq
  subst hq
  simp only [zgj,ha.rows,y17,yp,yf,ya,y8,y45,List.replicate_zero,y1t]
  rfl
theorem z1so {k:Nat} (hk:KK≤k) {m:Mat} {R C:Nat} (h:MatP m R C):zpv k m=some (m.1,(C:Int),(R:Int),z1i (fun j i=>m.2.2.2.getD (i*C+j) 0) R C):=by
 have hK:=zf
 have hL:=z1r
 have hR:=h.r32
 have hC:=h.c32
 have hCR:C*R≤32*32:=y1p hC hR
 unfold zpv zu6
 rw [h.rows,h.cols]
 have row:∀ (j:Nat),j<C→∀ (x16 x17:Int) (q3:List Int) (u1 u2 u3 u4 u5 u6:Int) (E:Int→Mat→Int→Int→List Int→List Int→Int→Int→Int→Int→Int→Int→Option Mat),zdf k k (R:Int) m (j:Int) x16 x17 (R:Int) 0 q3 (z1i (fun j i=>m.2.2.2.getD (i*C+j) 0) R j) u1 u2 u3 u4 u5 u6 E=E (R:Int) m x16 x17 q3 (z1i (fun j i=>m.2.2.2.getD (i*C+j) 0) R (j+1)) u1 u2 u3 u4 u5 u6:=by
  intro j hj x16 x17 q3 u1 u2 u3 u4 u5 u6 E
  refine z2b (α:=Nat) (A:=List Int) (L:=fun n i q=>zdf k n (R:Int) m (j:Int) x16 x17 (R:Int) i q3 q u1 u2 u3 u4 u5 u6 E) (I:=fun pre q=>q=z1i (fun j i=>m.2.2.2.getD (i*C+j) 0) R j++(List.range pre.length).map (fun i=>m.2.2.2.getD (i*C+j) 0)) (G:=fun _ _=>E (R:Int) m x16 x17 q3 (z1i (fun j i=>m.2.2.2.getD (i*C+j) 0) R (j+1)) u1 u2 u3 u4 u5 u6) (List.range R) ?_ ?_ k (by simp; omega) _ (by simp) |> fun h=>h
  ·intro n pre x post q _ hq ih _ hlt
   rw [y17] at hlt
   have hi:pre.length<R:=by omega
   have hw:=zd (i:=pre.length) (by omega)
   have hic:pre.length*C≤32*32:=y1p (by omega) (by omega)
   have w1:z6 (z6 ((pre.length:Int)*(C:Int))+(j:Int))=((pre.length*C+j:Nat):Int):=by rw [z6q (by omega) hC,ze (by omega) (by omega)]; omega
   have hjr:j*R≤32*32:=y1p (by omega) (by omega)
   have b:(q.length+1)*8≤LIM:=by rw [hq,yk,za0,ym,y17]; omega
   simp only [zdf,zu5,zjx,h.cols,hlt,y9,y7,w1,yg,yd,zhn h hi hj,y6,yy,b,hw]
   exact ih _ (by rw [hq,yk,yy,y30,y1z,← y12]; rfl)
  ·intro n q hq
   subst hq
   simp only [zdf,y17,yp,yf,ya,y8]
   rfl
 have:=z2b (α:=Nat) (A:=List Int) (L:=fun n i q=>zdg k n (R:Int) m (C:Int) i [] q 0 0 0 m.1 (C:Int) (R:Int) (fun q_15 q_16 v_8a_17 v_8ba_18 v_8bba_19 v_9a_20 v_9ba_21 v_9bba_22=>some (v_9a_20,(v_9ba_21,(v_9bba_22,q_16))))) (I:=fun pre q=>q=z1i (fun j i=>m.2.2.2.getD (i*C+j) 0) R pre.length) (G:=fun _ _=>some ((m.1,(C:Int),(R:Int),z1i (fun j i=>m.2.2.2.getD (i*C+j) 0) R C):Mat)) (List.range C) ?_ ?_ k (by simp; omega) [] rfl
 ·rw [show zdg k k (R:Int) m (C:Int) 0 [] [] 0 0 0 m.1 (C:Int) (R:Int) (fun q_15 q_16 v_8a_17 v_8ba_18 v_8bba_19 v_9a_20 v_9ba_21 v_9bba_22=>some (v_9a_20,(v_9ba_21,(v_9bba_22,q_16))))=_ from this]
  rfl
 ·intro n pre x post q _ hq ih _ hlt
  rw [y17] at hlt
  have hi:pre.length<C:=by omega
  have hw:=zd (i:=pre.length) (by omega)
  subst hq
  simp only [zdg,hlt,y9,y7,row pre.length hi,hw]
  exact ih _ (by rw [yk,yy])
 ·intro n q hq
  subst hq
  simp only [zdg,y17,yp,yf,ya,y8]
theorem z19u {e:Nat→Nat→Int} {C:Nat}:∀ {R i j:Nat},i<R→j<C→(z1i e C R)[i*C+j]?=some (e i j)
 | R+1,i,j,hi,hj=>by
  show (z1i e C R++(List.range C).map (e R))[i*C+j]?=_
  by_cases c:i<R
  ·have:i*C+j<R*C:=zqo c hj
   rw [y1w (by rw [za0]; exact this)]
   exact z19u c hj
  ·have hiR:i=R:=by omega
   subst hiR
   rw [y1r (by rw [za0]; omega),za0,y3j,yr,y21 hj]
   rfl
theorem z1sp {m:Mat} {R C:Nat} (h:MatP m R C):MatP (m.1,(C:Int),(R:Int),z1i (fun j i=>m.2.2.2.getD (i*C+j) 0) R C) C R where
 rows:=rfl
 cols:=rfl
 r32:=h.c32
 c32:=h.r32
 len:=za0 ..
 prime:=h.prime
 cells:=by
  have:∀ n,∀ x∈z1i (fun j i=>m.2.2.2.getD (i*C+j) 0) R n,0≤x∧x≤250:=by
   intro n
   induction n with
   | zero=>simp [z1i]
   | succ n ih =>
    intro x hx
    have hx:x∈z1i (fun j i=>m.2.2.2.getD (i*C+j) 0) R n++(List.range R).map (fun i=>m.2.2.2.getD (i*C+n) 0):=hx
    rcases ye.1 hx with hx | hx
    ·exact ih x hx
    ·obtain ⟨i,_,rfl⟩:=y1c.1 hx
     exact zk9 h _
  exact this C
 lt:=by
  have hp:=h.prime
  have:∀ n,∀ x∈z1i (fun j i=>m.2.2.2.getD (i*C+j) 0) R n,x<m.1:=by
   intro n
   induction n with
   | zero=>simp [z1i]
   | succ n ih =>
    intro x hx
    have hx:x∈z1i (fun j i=>m.2.2.2.getD (i*C+j) 0) R n++(List.range R).map (fun i=>m.2.2.2.getD (i*C+n) 0):=hx
    rcases ye.1 hx with hx | hx
    ·exact ih x hx
    ·obtain ⟨i,_,rfl⟩:=y1c.1 hx
     rw [y15]
     cases hy:m.2.2.2[i*C+n]? with
     | none=>simp; omega
     | some y=>exact h.lt y (yl hy)
  exact this C
theorem z19v {k:Nat} (hk:KK≤k) {a b:List Int} {K:Nat} (ha:a.length=K) (hb:b.length=K) (hK32:K≤32) {p:Int} (hp:2≤p∧p≤251) {f:Nat→Int} (hf:∀ t,0≤f t∧f t≤62500) (hab:∀ t x y,a[t]?=some x→b[t]?=some y→x*y=f t):zjy k a b p=some (z2c f K % p):=by
 have hK:=zf
 unfold zjy
 have:=z2b (A:=Int) (L:=fun n i z=>zhb k n a b p z (a.length:Int) i (fun sum_3=>some sum_3)) (I:=fun pre z=>z=z2c f pre.length % p) (G:=fun _ _=>some (z2c f K % p)) a ?_ ?_ k (by omega) 0 (by simp [z2c])
 ·exact this
 ·intro n pre x post z hx hz ih hg hlt
  have hw:=zd (i:=pre.length) (by omega)
  have hlb:pre.length<b.length:=by omega
  have hgb:b[pre.length]?=some b[pre.length]:=yh hlb
  have hxy:=hab pre.length x _ hg hgb
  have hft:=hf pre.length
  have hz0:0≤z∧z<p:=by rw [hz]; exact ⟨y3t _ (by omega),y3u _ (by omega)⟩
  have w1:z6 (f pre.length)=f pre.length:=ze (by omega) (by omega)
  have w2:z6 (z+f pre.length)=z+f pre.length:=ze (by omega) (by omega)
  have hm:Int.tmod (z+f pre.length) p=z2c f (pre.length+1) % p:=by
   rw [y2t (by omega),hz]
   show (z2c f pre.length % p+f pre.length) % p=(z2c f pre.length+f pre.length) % p
   rw [Int.emod_add_emod]
  simp only [zhb,hlt,y9,y7,yg,yd,hg,hgb,y6,hxy,show ¬ p=0 by omega,y8,w1,w2,hm,hw]
  exact ih _ (by rw [yk,yy])
 ·intro n z hz
  subst hz
  simp only [zhb,yp,yf,ya,y8,ha]
theorem zv0 {m:Mat} {R C:Nat} (h:MatP m R C) (r t:Nat) {x:Int} (hx:(z52 m.2.2.2 C r)[t]?=some x):x=m.2.2.2.getD (r*C+t) 0:=by
 have ht:t<C:=by
  have:=(yo.1 hx).1
  unfold z52 at this
  rw [y1d] at this
  omega
 rw [z18n ht] at hx
 rw [y15,hx]; rfl
theorem z1sq {k:Nat} (hk:KK≤k) {a b:Mat} {R K C:Nat} (ha:MatP a R K) (hb:MatP b K C):zhc k a b=some (zdv a b R K C):=by
 have hK:=zf
 have hL:=z1r
 have hR:=ha.r32
 have hKK:=ha.c32
 have hC:=hb.c32
 have hRC:R*C≤32*32:=y1p hR hC
 have hT:=z1sp hb
 unfold zhc zu8
 rw [z1so hk hb]
 simp only [y6]
 rw [z18p hk hT]
 simp only [y6]
 unfold zu9
 rw [ha.rows,hb.cols]
 generalize hcols:(List.range C).map (z52 (z1i (fun j i=>b.2.2.2.getD (i*C+j) 0) K C) K)=cols
 have hcell:∀ i j:Nat,i<R→j<C→zpw k (i:Int) (j:Int) a cols=some (z4j a.2.2.2 b.2.2.2 K C a.1 i j):=by
  intro i j hi hj
  have hrow:z8c a (i:Int)=some (z52 a.2.2.2 K i):=by
   have h1:(i+1)*K≤R*K:=y24 _ hi
   have h2:R*K≤32*32:=y1p hR hKK
   have h3:(i+1)*K=i*K+K:=y2d _ _
   have hw:=zd (i:=i) (by omega)
   unfold z8c
   rw [ha.cols,z6q (by omega) hKK,hw,z6q (i:=i+1) (by omega) hKK,y4 ⟨by omega,by omega,by rw [ha.len]; omega⟩,yd,yd,show (i+1)*K-i*K=K by omega]
   rfl
  have hcol:cols[j]?=some (z52 (z1i (fun j i=>b.2.2.2.getD (i*C+j) 0) K C) K j):=by rw [← hcols,yr,y21 hj]; rfl
  unfold zpw
  rw [hrow]
  simp only [y6,yg,y7,yd,hcol]
  rw [z19v hk (K:=K) (zhl ha.len hi) (zhl hT.len hj) hKK ha.prime (f:=z6c a.2.2.2 b.2.2.2 K C i j) (fun t=>zqp ha hb i j t) (fun t x y hx hy=>by
   have h1:=zv0 ha i t hx
   have h2:=zv0 hT j t hy
   have ht:t<K:=by
    have:=(yo.1 hy).1
    rw [zhl hT.len hj] at this
    exact this
   have h3:(z1i (fun j i=>b.2.2.2.getD (i*C+j) 0) K C).getD (j*K+t) 0=b.2.2.2.getD (t*C+j) 0:=by rw [y15,z19u hj ht]; rfl
   rw [h1,h2]
   show _*(z1i (fun j i=>b.2.2.2.getD (i*C+j) 0) K C).getD (j*K+t) 0=_
   rw [h3]
   rfl)]
  rfl
 have row:∀ (i:Nat),i<R→∀ (x16 x17:Int) (q3:List Int) (u1 u2 u3 u4 u5 u6:Int) (E:Int→(Mat×List (List Int))→Int→Int→List Int→List Int→Int→Int→Int→Int→Int→Int→Option Mat),zdh k k (C:Int) (a,cols) (i:Int) x16 x17 (C:Int) 0 q3 (z1i (z4j a.2.2.2 b.2.2.2 K C a.1) C i) u1 u2 u3 u4 u5 u6 E=E (C:Int) (a,cols) x16 x17 q3 (z1i (z4j a.2.2.2 b.2.2.2 K C a.1) C (i+1)) u1 u2 u3 u4 u5 u6:=by
  intro i hi x16 x17 q3 u1 u2 u3 u4 u5 u6 E
  refine z2b (α:=Nat) (A:=List Int) (L:=fun n j q=>zdh k n (C:Int) (a,cols) (i:Int) x16 x17 (C:Int) j q3 q u1 u2 u3 u4 u5 u6 E) (I:=fun pre q=>q=z1i (z4j a.2.2.2 b.2.2.2 K C a.1) C i++(List.range pre.length).map (z4j a.2.2.2 b.2.2.2 K C a.1 i)) (G:=fun _ _=>E (C:Int) (a,cols) x16 x17 q3 (z1i (z4j a.2.2.2 b.2.2.2 K C a.1) C (i+1)) u1 u2 u3 u4 u5 u6) (List.range C) ?_ ?_ k (by simp; omega) _ (by simp) |> fun h=>h
  ·intro n pre x post q _ hq ih _ hlt
   rw [y17] at hlt
   have hj:pre.length<C:=by omega
   have hw:=zd (i:=pre.length) (by omega)
   have hic:i*C≤32*32:=y1p (by omega) (by omega)
   have b1:(q.length+1)*8≤LIM:=by rw [hq,yk,za0,ym,y17]; omega
   simp only [zdh,hlt,y9,y7,hcell i pre.length hi hj,y6,yy,b1,hw]
   exact ih _ (by rw [hq,yk,yy,y30,y1z,← y12]; rfl)
  ·intro n q hq
   subst hq
   simp only [zdh,y17,yp,yf,ya,y8]
   rfl
 have:=z2b (α:=Nat) (A:=List Int) (L:=fun n i q=>zdi k n (C:Int) (a,cols) (R:Int) i [] q 0 0 0 a.1 (R:Int) (C:Int) (fun q_15 q_16 v_8a_17 v_8ba_18 v_8bba_19 v_9a_20 v_9ba_21 v_9bba_22=>some (v_9a_20,(v_9ba_21,(v_9bba_22,q_16))))) (I:=fun pre q=>q=z1i (z4j a.2.2.2 b.2.2.2 K C a.1) C pre.length) (G:=fun _ _=>some (zdv a b R K C)) (List.range R) ?_ ?_ k (by simp; omega) [] rfl
 ·rw [show zdi k k (C:Int) (a,cols) (R:Int) 0 [] [] 0 0 0 a.1 (R:Int) (C:Int) (fun q_15 q_16 v_8a_17 v_8ba_18 v_8bba_19 v_9a_20 v_9ba_21 v_9bba_22=>some (v_9a_20,(v_9ba_21,(v_9bba_22,q_16))))=_ from this]
  rfl
 ·intro n pre x post q _ hq ih _ hlt
  rw [y17] at hlt
  have hi:pre.length<R:=by omega
  have hw:=zd (i:=pre.length) (by omega)
  subst hq
  simp only [zdi,hlt,y9,y7,row pre.length hi,hw]
  exact ih _ (by rw [yk,yy])
 ·intro n q hq
  subst hq
  simp only [zdi,y17,yp,yf,ya,y8]
  rfl
theorem zbh {R:Type} {L:Nat→Int→R} {b:Nat} {p:Nat→Bool} {e:R} {Q:R→Prop} (h1:∀ n (i:Nat),i<b→p i=true→L (n+1) (i:Int)=L n ((i+1:Nat):Int)) (h2:∀ n (i:Nat),i<b→p i=false→Q (L (n+1) (i:Int))) (h3:∀ n,L (n+1) (b:Int)=e) {n:Nat} (hn:b<n) :
  ((List.range b).all p=true→L n 0=e)∧((List.range b).all p=false→Q (L n 0)):=by
 have main:∀ (d i n:Nat),i+d=b→d<n→((∀ x,i≤x→x<b→p x=true)→L n (i:Int)=e)∧((∃ x,i≤x∧x<b∧p x=false)→Q (L n (i:Int))):=by
  intro d
  induction d with
  | zero =>
   intro i n hi hn
   obtain ⟨n,rfl⟩:∃ m,n=m+1:=⟨n-1,by omega⟩
   have:i=b:=by omega
   subst this
   exact ⟨fun _=>h3 n,fun ⟨x,h1,h2,_⟩=>by omega⟩
  | succ d ih =>
   intro i n hi hn
   obtain ⟨n,rfl⟩:∃ m,n=m+1:=⟨n-1,by omega⟩
   have hib:i<b:=by omega
   obtain ⟨g1,g2⟩:=ih (i+1) n (by omega) (by omega)
   cases hp:p i with
   | true =>
    rw [h1 n i hib hp]
    refine ⟨fun h=>g1 fun x hx hxb=>h x (by omega) hxb,fun ⟨x,hx,hxb,hpx⟩=>g2 ⟨x,?_,hxb,hpx⟩⟩
    rcases y26 i x with h | h
    ·exact h
    ·have:x=i:=by omega
     subst this; rw [hp] at hpx; cases hpx
   | false=>exact ⟨fun h=>(by have:=h i (yx _) hib; rw [hp] at this; cases this),fun _=>h2 n i hib hp⟩
 obtain ⟨g1,g2⟩:=main b 0 n (by omega) hn
 refine ⟨fun h=>g1 fun x _ hx=>y16.1 h x (y19.2 hx),fun h=>g2 ?_⟩
 obtain ⟨x,hx,hp⟩:=List.all_eq_false.1 h
 exact ⟨x,by omega,List.mem_range.1 hx,by simpa using hp⟩
def stN (s:She) (x:Nat):Nat:=(s.2.2.1.getD x 0).toNat
def mpS (s:She) (j i:Nat):Mat:=s.2.2.2.getD ((zn s.1 j).length+i) (0,0,0,[])
theorem z1sr {k:Nat} {s:She} (h:zz k s=true):s.2.2.2.length=(zn s.1 s.1.length).length∧chk k s 0 (zn s.1 s.1.length):=by
 unfold zz at h
 simp only [yi,y18] at h
 exact h.2.2.2
theorem zho {k:Nat} (hk:KK≤k) {s:She} (hs:smallSh s) (h:zz k s=true) {j:Nat} {t:List Int} (hj:s.1[j]?=some t) {i:Nat} (hi:i<(zg s.1 t).length) :
  s.2.2.2[(zn s.1 j).length+i]?=some (mpS s j i)∧MatP (mpS s j i) (stN s j) (stN s ((zg s.1 t).getD i 0)):=by
 obtain ⟨hC,hp,hS⟩:=z1b hk h
 obtain ⟨_,hch⟩:=z1sr h
 have hjl:=(yo.1 hj).1
 have hb:=zuy (k:=k) (s:=s) s.1.length |>.2 hch j hjl
 obtain ⟨m,h1,h2⟩:=hb i _ (z19r hj hi)
 have e:mpS s j i=m:=by unfold mpS; rw [List.getD_eq_getElem?_getD,h1]; rfl
 rw [e]
 refine ⟨h1,?_⟩
 unfold okA at h2
 simp only [yi,y18] at h2
 obtain ⟨a1,a2,a3,a4⟩:=h2
 obtain ⟨R,C,hm⟩:=(zuw hk (hs.cells m (yl h1))).2.2 a1
 have e1:R=stN s j:=by unfold stN; have:=hm.rows; omega
 have e2:C=stN s ((zg s.1 t).getD i 0):=by unfold stN; have:=hm.cols; omega
 rw [← e1,← e2]
 exact hm
theorem zka {k:Nat} (hk:KK≤k) {s:She} (hs:smallSh s) (h:zz k s=true) {j:Nat} {t:List Int} (hj:s.1[j]?=some t) {i:Nat} (hi:i<(zg s.1 t).length):zb1 k s (j:Int) (i:Int)=some (mpS s j i):=by
 obtain ⟨hC,_,_⟩:=z1b hk h
 have hjl:=(yo.1 hj).1
 have h4:=(hC.simp t (yl hj)).len4
 have hfl:=z8k s.1 t
 have hi4:i≤4:=by rw [hfl] at hi; split at hi <;> omega
 unfold zb1
 rw [zuv hk hC (by omega) hi4]
 simp only [y6,yg,y7,yd,(zho hk hs h hj hi).1]
theorem z1ss {k:Nat} (hk:KK≤k) {s:She} (h:CxP s.1) {j:Nat} (hj:j≤s.1.length):zps k s (j:Int)=some ((zn s.1 j).length:Int):=by
 have hK:=zf
 have hcl:=h.len
 unfold zps
 rw [y4 ⟨by omega,by omega,by omega⟩,yd]
 have htl:(s.1.take j).length=j:=by rw [y1d]; omega
 refine z2b (A:=Int) (L:=fun n i z=>zb9 k n z (s.1.take j) ((s.1.take j).length:Int) i (fun n_3=>some n_3)) (I:=fun pre z=>z=((zn s.1 pre.length).length:Int)) (G:=fun _ _=>some ((zn s.1 j).length:Int)) (s.1.take j) ?_ ?_ k (by omega) 0 (by simp [zn])
 ·intro n pre x post z hx hz ih hg hlt
  have hpl:pre.length<j:=by omega
  have hw:=zd (i:=pre.length) (by omega)
  have hgc:s.1[pre.length]?=some x:=by rw [y1o hpl] at hg; exact hg
  have h4:=(h.simp _ (yl hgc)).len4
  have hal:=z9y h pre.length (by omega)
  have hnx:(zn s.1 (pre.length+1)).length=(zn s.1 pre.length).length+(if 1<x.length then x.length else 0):=by rw [zdu,yk,zqn hgc]
  simp only [zb9,hlt,y9,y7,yg,yd,hg,y6,hw]
  by_cases c1:1<x.length
  ·have hwz:z6 (z+(x.length:Int))=z+(x.length:Int):=ze (by omega) (by omega)
   rw [yc (by omega),y4 rfl]
   show zb9 k n (z6 (z+(x.length:Int))) _ _ _ _=_
   rw [hwz]
   refine ih _ ?_
   rw [y4 c1] at hnx
   rw [yk,yy,hnx,hz]; rfl
  ·rw [yb (by omega),y5 (by simp)]
   refine ih _ ?_
   rw [y5 c1] at hnx
   rw [yk,yy,hnx,hz]; rfl
 ·intro n z hz
  rw [htl] at hz
  simp only [zb9,yp,yf,ya,y8,hz]
theorem zqq {k:Nat} (hk:KK≤k) {s:She} (hs:smallSh s) (h:zz k s=true) {j:Nat} {t:List Int} (hj:s.1[j]?=some t) {i:Nat} (hi:i<(zg s.1 t).length):z8b k s (j:Int) (i:Int)=some (mpS s j i):=by
 obtain ⟨hC,_,_⟩:=z1b hk h
 have hjl:=(yo.1 hj).1
 have hcl:=hC.len
 have hal:=z9y hC j (by omega)
 have h4:=(hC.simp t (yl hj)).len4
 have hfl:=z8k s.1 t
 have hi4:i≤4:=by rw [hfl] at hi; split at hi <;> omega
 have hw:z6 (((zn s.1 j).length:Int)+(i:Int))=(((zn s.1 j).length+i:Nat):Int):=by rw [ze (by omega) (by omega)]; omega
 unfold z8b
 rw [z1ss hk hC (by omega)]
 simp only [y6,hw,yg,y7,yd,(zho hk hs h hj hi).1]
theorem zkb {s:She} (hC:CxP s.1) {j:Nat} {t:List Int} (hj:s.1[j]?=some t) (h3:2<t.length) {i:Nat} (hi:i<t.length) :
  (zg s.1 t).length=t.length∧(zg s.1 t)[i]?=some ((zg s.1 t).getD i 0)∧∃ f,s.1[(zg s.1 t).getD i 0]?=some f∧f.length=t.length-1∧(zg s.1 f).length=t.length-1:=by
 have hm:=yl hj
 have hfl:=z8k s.1 t
 rw [y4 (by omega)] at hfl
 have hF:(zg s.1 t).getD i 0=z2s s.1 (zy t i):=by
  rw [y15]
  unfold zg z23
  rw [y4 (by omega),yr,yr,y21 hi]; rfl
 have hmem:=hC.face t hm (by omega) i hi
 have hdl:=z8i hi
 have hfl2:=z8k s.1 (zy t i)
 rw [y4 (by omega)] at hfl2
 refine ⟨hfl,?_,zy t i,by rw [hF]; exact zdt hmem,hdl,by omega⟩
 rw [y15,yh (by omega)]; rfl
def sqS (s:She) (j:Nat) (t:List Int) (i i2:Nat):Mat :=
 zdv (mpS s j i) (mpS s ((zg s.1 t).getD i 0) (if i<i2 then i2-1 else i2)) (stN s j) (stN s ((zg s.1 t).getD i 0)) (stN s ((zg s.1 (s.1.getD ((zg s.1 t).getD i 0) [])).getD (if i<i2 then i2-1 else i2) 0))
theorem zv1 {k:Nat} (hk:KK≤k) {s:She} (hs:smallSh s) (h:zz k s=true) {j:Nat} {t:List Int} (hj:s.1[j]?=some t) (h3:2<t.length) {i i2:Nat} (hi:i<t.length) (hi2:i2<t.length) (hne:i≠i2) :
  ∃ R K C,MatP (mpS s j i) R K∧MatP (mpS s ((zg s.1 t).getD i 0) (if i<i2 then i2-1 else i2)) K C∧zdv (mpS s j i) (mpS s ((zg s.1 t).getD i 0) (if i<i2 then i2-1 else i2)) R K C=sqS s j t i i2 ∧
   (∃ f,s.1[(zg s.1 t).getD i 0]?=some f∧(if i<i2 then i2-1 else i2)<(zg s.1 f).length)∧i<(zg s.1 t).length:=by
 obtain ⟨hC,_,_⟩:=z1b hk h
 obtain ⟨f1,f2,f,f3,f4,f5⟩:=zkb hC hj h3 hi
 have hx:(if i<i2 then i2-1 else i2)<(zg s.1 f).length:=by rw [f5]; split <;> omega
 have m1:=(zho hk hs h hj (i:=i) (by omega)).2
 have m2:=(zho hk hs h f3 hx).2
 have hgd:s.1.getD ((zg s.1 t).getD i 0) []=f:=by rw [y15,f3]; rfl
 refine ⟨_,_,_,m1,m2,?_,⟨f,f3,hx⟩,by omega⟩
 unfold sqS
 rw [hgd]
theorem zbi {k:Nat} (hk:KK≤k) {s:She} (hs:smallSh s) (h:zz k s=true) {j:Nat} {t:List Int} (hj:s.1[j]?=some t) (h3:2<t.length) {i i2:Nat} (hi:i<t.length) (hi2:i2<t.length) (hne:i≠i2):zjm k s (j:Int) (i:Int) (i2:Int)=some (sqS s j t i i2):=by
 obtain ⟨hC,_,_⟩:=z1b hk h
 have hsl:=(hC.simp t (yl hj)).len4
 obtain ⟨f1,f2,_⟩:=zkb hC hj h3 hi
 obtain ⟨R,K,C,m1,m2,m3,⟨f,f3,hx⟩,hil⟩:=zv1 hk hs h hj h3 hi hi2 hne
 have hF:((zg s.1 t).map fun i:Nat=>(i:Int))[i]?=some (((zg s.1 t).getD i 0:Nat):Int):=by rw [yr,f2]; rfl
 unfold zjm
 rw [zqm hk hC hj]
 simp only [y6,ym,yg,yd,hil,yw,y7,hF,zka hk hs h hj hil]
 by_cases c:i<i2
 ·have hw:z6 ((i2:Int)-1)=((i2-1:Nat):Int):=by rw [ze (by omega) (by omega)]; omega
  rw [y4 c] at m2 m3 hx
  rw [yc (by omega),y4 rfl,hw,zka hk hs h f3 hx]
  simp only [y6,z19t hk m1 m2,m3]
 ·rw [y5 c] at m2 m3 hx
  rw [yb (by omega),y5 (by simp),zka hk hs h f3 hx]
  simp only [y6,z19t hk m1 m2,m3]
theorem zqr {k:Nat} (hk:KK≤k) {s:She} (hs:smallSh s) (h:zz k s=true) {j:Nat} {t:List Int} (hj:s.1[j]?=some t) (h3:2<t.length) {i i2:Nat} (hi:i<t.length) (hi2:i2<t.length) (hne:i≠i2) :
  z8b k s (j:Int) (i:Int)=some (mpS s j i)∧z8b k s (((zg s.1 t).getD i 0:Nat):Int) ((if i<i2 then i2-1 else i2:Nat):Int)=some (mpS s ((zg s.1 t).getD i 0) (if i<i2 then i2-1 else i2)) ∧
   zhc k (mpS s j i) (mpS s ((zg s.1 t).getD i 0) (if i<i2 then i2-1 else i2))=some (sqS s j t i i2):=by
 obtain ⟨R,K,C,m1,m2,m3,⟨f,f3,hx⟩,hil⟩:=zv1 hk hs h hj h3 hi hi2 hne
 exact ⟨zqq hk hs h hj hil,zqq hk hs h f3 hx,by rw [z1sq hk m1 m2,m3]⟩
theorem zqs {k:Nat} (hk:KK≤k) {a b:Mat} (ha:a.2.2.2.length≤1048576):zoi k a b=some (decide (a=b)):=by
 have hK:=zf
 obtain ⟨a1,a2,a3,a4⟩:=a
 obtain ⟨b1,b2,b3,b4⟩:=b
 unfold zoi
 simp only at ha ⊢
 by_cases e1:a1=b1
 case neg=>rw [yb e1,y4 (by simp),yb (fun z=>e1 (by cases z; rfl))]
 rw [yc e1,y5 (by simp)]
 by_cases e2:a2=b2
 case neg=>rw [yb e2,y4 (by simp),yb (fun z=>e2 (by cases z; rfl))]
 rw [yc e2,y5 (by simp)]
 by_cases e3:a3=b3
 case neg=>rw [yb e3,y4 (by simp),yb (fun z=>e3 (by cases z; rfl))]
 rw [yc e3,y5 (by simp)]
 by_cases hl:a4.length=b4.length
 case neg=>rw [yb (by omega),y4 (by simp),yb (fun z=>hl (by cases z; rfl))]
 rw [yc (by omega),y5 (by simp)]
 have:=z9a (L:=fun n i=>zgk k n (a1,a2,a3,a4) (b1,b2,b3,b4) i (some true)) a4 b4 hl ?_ ?_ (n:=k) (by omega)
 ·refine Eq.trans this ?_
  congr 1
  refine decide_eq_decide.2 ⟨fun z=>by rw [e1,e2,e3,z],fun z=>by cases z; rfl⟩
 ·intro n i x y hx hy hlt
  have hw:=zd (i:=i) (by omega)
  by_cases e:x=y <;> simp [zgk,hlt,hx,hy,hw,e]
 ·intro n
  simp [zgk]
theorem z19w {k:Nat} (hk:KK≤k) {a b:Mat} (ha:a.2.2.2.length≤1048576):zpz k a b=some (decide (a=b)):=by
 have hK:=zf
 obtain ⟨a1,a2,a3,a4⟩:=a
 obtain ⟨b1,b2,b3,b4⟩:=b
 unfold zpz zua
 simp only at ha ⊢
 by_cases e1:a1=b1
 case neg=>rw [yb e1,y5 (by simp),yb (fun z=>e1 (by cases z; rfl))]
 rw [yc e1,y4 rfl]
 by_cases e2:a2=b2
 case neg=>rw [yb e2,y5 (by simp),yb (fun z=>e2 (by cases z; rfl))]
 rw [yc e2,y4 rfl]
 by_cases e3:a3=b3
 case neg=>rw [yb e3,y5 (by simp),yb (fun z=>e3 (by cases z; rfl))]
 rw [yc e3,y4 rfl]
 by_cases hl:a4.length=b4.length
 case neg=>rw [yb (by omega),y4 (by simp),yb (fun z=>hl (by cases z; rfl))]; rfl
 rw [yc (by omega),y5 (by simp)]
 have:=z9a (L:=fun n i=>zdj k n a4 b4 (a4.length:Int) i (some true)) a4 b4 hl ?_ ?_ (n:=k) (by omega)
 ·have h0:zdj k k a4 b4 (a4.length:Int) 0 (some true)=_:=this
  rw [h0]
  simp only [y6]
  congr 1
  refine decide_eq_decide.2 ⟨fun z=>by rw [e1,e2,e3,z],fun z=>by cases z; rfl⟩
 ·intro n i x y hx hy hlt
  have hw:=zd (i:=i) (by omega)
  by_cases e:x=y <;> simp [zdj,hlt,hx,hy,hw,e]
 ·intro n
  simp [zdj]
theorem z1st (a b:Mat) (R K C:Nat):(zdv a b R K C).2.2.2.length=R*C:=za0 ..
theorem zv2 (p:Int) (R N:Nat):∀ d c f (P:List Int),c+d=N→(∀ x∈P,0≤x∧x<(N:Int))→∀ x∈(gz p R d c f P).2,0≤x∧x<(N:Int)
 | 0,_,_,_,_,h=>h
 | d+1,c,f,P,hc,h=>by
  unfold gz
  split
  ·exact zv2 p R N d (c+1) f P (by omega) h
  ·refine zv2 p R N d (c+1) _ _ (by omega) fun x hx=>?_
   rcases ye.1 hx with hx | hx
   ·exact h x hx
   ·have:x=(c:Int):=by simpa using hx
    omega
theorem z19x {S R:Type} {L:Nat→Int→S→R} {b:Nat} {st:Nat→S} {p:Nat→Bool} {e x:R} (h1:∀ n (i:Nat),i<b→p i=true→L (n+1) (i:Int) (st i)=L n ((i+1:Nat):Int) (st (i+1))) (h2:∀ n (i:Nat),i<b→p i=false→L (n+1) (i:Int) (st i)=x) (h3:∀ n,L (n+1) (b:Int) (st b)=e) {n:Nat} (hn:b<n) :
  L n 0 (st 0)=if (List.range b).all p=true then e else x:=by
 have key:=zbh (L:=fun n z=>L n z (st z.toNat)) (b:=b) (p:=p) (e:=e) (Q:=fun r=>r=x) (fun n i hi hp=>by simp only [yd]; exact h1 n i hi hp) (fun n i hi hp=>by simp only [yd]; exact h2 n i hi hp) (fun n=>by simp only [yd]; exact h3 n) hn
 have e0:(0:Int).toNat=0:=rfl
 simp only [e0] at key
 cases hp:(List.range b).all p with
 | true=>rw [y4 rfl]; exact key.1 hp
 | false=>rw [y5 (by simp)]; exact key.2 hp
def z36 (m:Mat) (b:List Int) (C:Nat):Nat→Nat→Int:=fun i j=>if j<C then fM m C i j else b.getD i 0
theorem z1su {m:Mat} {R C:Nat} (h:MatP m R C) {b:List Int} (hb:∀ x∈b,0≤x∧x≤m.1-1):BdF m.1 (z36 m b C):=fun i j=>by
 have hp:=h.prime
 unfold z36
 split
 ·exact z1rt h C i j
 ·rw [y15]
  cases hx:b[i]? with
  | none=>exact ⟨by simp,by simp; omega⟩
  | some x=>have:=hb x (yl hx); simp only [y5r]; omega
theorem z19y {m:Mat} {C i:Nat} {b:List Int}:z17 (C+1) (z36 m b C) i=z17 C (fM m C) i++[b.getD i 0]:=by
 unfold z17
 rw [y30,y1z]
 congr 1
 ·exact List.map_congr_left fun j hj=>by unfold z36; rw [if_pos (List.mem_range.1 hj)]
 ·simp [z36]
theorem z1sv (R C:Nat) (f:Nat→Nat→Int):z11 (R+1) C f=z11 R C f++z17 C f R:=by
 refine y35 fun t=>?_
 rcases y26 t (R*C) with ht | ht
 ·rw [y1w (by rw [z4h]; exact ht)]
  unfold z11
  rw [yr,yr,y21 ht,y21 (by rw [y2d]; omega)]
 ·rw [y1r (by rw [z4h]; exact ht),z4h]
  rcases y26 t ((R+1)*C) with ht2 | ht2
  ·have hj:t-R*C<C:=by rw [y2d] at ht2; omega
   have:=z7h (R:=R+1) f (i:=R) (j:=t-R*C) (by omega) hj
   rw [show R*C+(t-R*C)=t by omega] at this
   rw [this,zdp f R hj]
  ·rw [y2r (by rw [z4h]; exact ht2),y2r (by rw [zqb]; rw [y2d] at ht2; omega)]
def z6d (f:Nat→Nat→Int) (C:Nat) (P:List Int):Nat→List Int
 | 0=>List.replicate C 0
 | i+1=>(z6d f C P i).set (P.getD i 0).toNat (f i C)
theorem zkc (f:Nat→Nat→Int) (C:Nat) (P:List Int):∀ i,(z6d f C P i).length=C
 | 0=>by simp [z6d]
 | i+1=>by simp [z6d,zkc f C P i]
def zqt (f:Nat→Nat→Int) (C:Nat) (P:List Int):List Int×Bool:=if (List.range P.length).all (fun i=>!decide (P.getD i 0=(C:Int)))=true then (z6d f C P P.length,true) else ([],false)
theorem z1sw {k:Nat} (hk:KK≤k) {m:Mat} {R C:Nat} (h:MatP m R C) {b:List Int} (hl:b.length=R):zop k m (m.1,(m.2.1,(1,b)))=some (m.1,m.2.1,((C+1:Nat):Int),z11 R (C+1) (z36 m b C)):=by
 have hK:=zf
 have hL:=z1r
 have h32:=h.c32
 have hr32:=h.r32
 unfold zop
 have hw1:z6 (m.2.2.1+1)=((C+1:Nat):Int):=by rw [h.cols,ze (by omega) (by omega)]; omega
 simp only [hw1]
 have:=zba (S:=List Int) (L:=fun n i q=>zgq k n m (m.1,(m.2.1,(1,b))) i [] q 0 0 0 m.1 m.2.1 ((C+1:Nat):Int) (fun q_3 q_4 v_4a_5 v_4ba_6 v_4bba_7 v_5a_8 v_5ba_9 v_5bba_10=>some (v_5a_8,(v_5ba_9,(v_5bba_10,q_4))))) (b:=R) (st:=fun i=>z11 i (C+1) (z36 m b C)) (e:=some (m.1,m.2.1,((C+1:Nat):Int),z11 R (C+1) (z36 m b C))) ?_ ?_ (n:=k) (by omega)
 ·have e0:z11 0 (C+1) (z36 m b C)=[]:=by unfold z11; rw [Nat.zero_mul]; rfl
  rw [e0] at this
  exact this
 ·intro n i hi
  have hlt:(i:Int)<m.2.1:=by rw [h.rows]; omega
  have hw:=zd (i:=i) (by omega)
  have a1:(i+1)*C≤R*C:=y24 _ hi
  have a2:R*C≤32*32:=y1p hr32 h32
  have a3:(i+1)*C=i*C+C:=y2d _ _
  have a4:i*(C+1)=i*C+i:=Nat.mul_succ _ _
  have m1:z6 ((i:Int)*m.2.2.1)=((i*C:Nat):Int):=by rw [h.cols,← y3s]; exact ze (by omega) (by omega)
  have m2:z6 (((i+1:Nat):Int)*m.2.2.1)=(((i+1)*C:Nat):Int):=by rw [h.cols,← y3s]; exact ze (by omega) (by omega)
  have m3:z6 ((i:Int)*1)=(i:Int):=by rw [ze (by omega) (by omega)]; omega
  have m4:z6 (((i+1:Nat):Int)*1)=((i+1:Nat):Int):=by rw [ze (by omega) (by omega)]; omega
  have c1:(0:Int)≤((i*C:Nat):Int)∧((i*C:Nat):Int)≤(((i+1)*C:Nat):Int)∧(((i+1)*C:Nat):Int)≤(m.2.2.2.length:Int):=⟨by omega,by omega,by rw [h.len]; omega⟩
  have c2:(0:Int)≤(i:Int)∧(i:Int)≤((i+1:Nat):Int)∧((i+1:Nat):Int)≤(b.length:Int):=⟨by omega,by omega,by omega⟩
  have hrow:(m.2.2.2.drop (i*C)).take ((i+1)*C-i*C)=z17 C (fM m C) i:=by
   rw [show (i+1)*C-i*C=C by omega]
   have:=congrArg (fun l:List (List Int)=>l[i]?) (z197 h)
   simp only [yr,y21 hi,z6n (fM m C) hi,y1y,y3a] at this
   exact this
  have hbi:(b.drop i).take (i+1-i)=[b.getD i 0]:=by
   rw [show i+1-i=1 by omega,y15,yh (by omega),y2l (by omega)]
   rfl
  have l1:(z11 i (C+1) (z36 m b C)).length=i*C+i:=by rw [z4h]; omega
  have l2:(z17 C (fM m C) i).length=C:=zqb _ _ _
  simp only [zgq,hlt,y9,y7,hw,m1,m2,m3,m4,yd,c1,c2,yw,hrow,hbi,yk,l1,l2,yy]
  rw [y4 (by omega),y4 (by omega),z1sv,z19y,y12]
 ·intro n
  have:¬ (R:Int)<m.2.1:=by rw [h.rows]; omega
  simp only [zgq,this,yf,ya,y8]
theorem z1sx {k:Nat} (hk:KK≤k) {m:Mat} {R C:Nat} (h:MatP m R C) {b:List Int} (hl:b.length=R) (hb:∀ x∈b,0≤x∧x≤m.1-1):∃ r,zoy k m b=some r∧znc k m b=some r:=by
 have hK:=zf
 have hL:=z1r
 have h32:=h.c32
 have hr32:=h.r32
 have hp:=h.prime
 have hcols:0≤(C:Int)∧(C:Int)≤(C:Int)∧(C:Int)*8≤LIM:=⟨by omega,y2g _,by omega⟩
 have hbd:=z1su h hb
 have hRC:R*(C+1)≤32*33:=y1p hr32 (by omega)
 obtain ⟨g,hg⟩:∃ g,g=gz m.1 R (C+1) 0 (z36 m b C) []:=⟨_,rfl⟩
 have hPl:g.2.length≤R:=by rw [hg]; exact zup _ _ _ _ _ _ (y2n _)
 have hPv:∀ x∈g.2,0≤x∧x<((C+1:Nat):Int):=by rw [hg]; exact zv2 _ _ _ _ _ _ _ (by omega) (by simp)
 have hPg:∀ i,i<g.2.length→g.2[i]?=some (g.2.getD i 0)∧0≤g.2.getD i 0∧g.2.getD i 0<((C+1:Nat):Int):=fun i hi=>by
  have e:g.2[i]?=some (g.2.getD i 0):=by rw [y15,yh hi]; rfl
  exact ⟨e,hPv _ (yl e)⟩
 refine ⟨zqt g.1 C g.2,?_,?_⟩
 ·unfold zoy
  rw [z1sw hk h hl]
  simp only [y6]
  obtain ⟨det,e⟩:=z1ro hk (m:=(m.1,m.2.1,((C+1:Nat):Int),z11 R (C+1) (z36 m b C))) (R:=R) (C:=C+1) h.rows (by omega) (by omega) hp [] 0 0 0 m.1 m.2.1 ((C+1:Nat):Int) (fun det_100 q_101 q_102 q_103 v_2a_104 v_2ba_105 v_2bba_106 v_5a_107 v_5ba_108 v_5bba_109=>some ((v_5a_107,(v_5ba_108,(v_5bba_109,q_103))),q_101,det_100)) (C+1) 0 k (z36 m b C) [] 1 (by omega) (by omega) hbd (y2n _) (y2n _)
  rw [← hg] at e
  have hred:zor k (m.1,m.2.1,((C+1:Nat):Int),z11 R (C+1) (z36 m b C))=some ((m.1,m.2.1,((C+1:Nat):Int),z11 R (C+1) g.1),g.2,det):=by
   unfold zor
   rw [z1ru (by rw [z4h]; omega)]
   simp only [y6]
   exact e
  rw [hred]
  simp only [y6]
  rw [h.cols,y4 hcols,yd]
  have:=z19x (S:=List Int) (L:=fun n i q=>zd4 k n m i g.2 q (z11 R (C+1) (z36 m b C)) (z11 R (C+1) g.1) m.1 m.2.1 ((C+1:Nat):Int) m.1 m.2.1 ((C+1:Nat):Int) (fun q_12=>some (q_12,true))) (b:=g.2.length) (st:=z6d g.1 C g.2) (p:=fun i=>!decide (g.2.getD i 0=(C:Int))) (e:=some (z6d g.1 C g.2 g.2.length,true)) (x:=some ([],false)) ?_ ?_ ?_ (n:=k) (by omega)
  ·refine Eq.trans this ?_
   unfold zqt
   split <;> rfl
  ·intro n i hi hp0
   have hlt:(i:Int)<(g.2.length:Int):=by omega
   have hw:=zd (i:=i) (by omega)
   obtain ⟨p1,p2,p3⟩:=hPg i hi
   have hne:¬ g.2.getD i 0=(C:Int):=by simpa using hp0
   have hx:=z9s (i:=i) (C:=C+1) (j:=C) (by omega) (by omega) (by omega)
   have hl1:=ixl (R:=R) (C:=C+1) (i:=i) (j:=C) (by omega) (by omega)
   have hc:0≤g.2.getD i 0∧(g.2.getD i 0).toNat<C:=⟨p2,by omega⟩
   have hgx:(z6d g.1 C g.2 i)[(g.2.getD i 0).toNat]?=some ((z6d g.1 C g.2 i)[(g.2.getD i 0).toNat]'(by rw [zkc]; exact hc.2)):=yh _
   simp only [zd4,hlt,y9,y7,yg,yd,hi,yw,p1,y6,h.cols,hne,yf,ya,y8,hx,z4h,hl1,z7h g.1 (show i<R by omega) (show C<C+1 by omega),zkc,hc,hgx,hw]
   rfl
  ·intro n i hi hp0
   have hlt:(i:Int)<(g.2.length:Int):=by omega
   obtain ⟨p1,p2,p3⟩:=hPg i hi
   have hne:g.2.getD i 0=(C:Int):=by simpa using hp0
   simp only [zd4,hlt,y9,y7,yg,yd,hi,yw,p1,y6,h.cols,hne]
  ·intro n
   simp only [zd4,yp,yf,ya,y8]
 ·unfold znc
  rw [z18p hk h,z197 h]
  simp only [y6,z8f]
  obtain ⟨det,e⟩:=z1rv hk (R:=R) (C:=C+1) (by omega) (by omega) hp hbd
  rw [← hg] at e
  have hcw:z6 (m.2.2.1+1)=((C+1:Nat):Int):=by rw [h.cols,ze (by omega) (by omega)]; omega
  have l1:=z19x (S:=List Int) (L:=fun n i q=>zax k n (g.2.length:Int) i (z1s R (C+1) g.1) q g.2 m (fun q_17=>some (q_17,true))) (b:=g.2.length) (st:=z6d g.1 C g.2) (p:=fun i=>!decide (g.2.getD i 0=(C:Int))) (e:=some (z6d g.1 C g.2 g.2.length,true)) (x:=some ([],false)) ?_ ?_ ?_ (n:=k) (by omega)
  ·have l0:=zba (S:=List (List Int)) (L:=fun n i q=>zcf k n b (R:Int) i q m (fun q_6 v_7=>(zna k (z6 (v_7.2.2.1+1)) v_7.1 q_6).bind fun y_8=>(if 0≤v_7.2.2.1∧v_7.2.2.1≤v_7.2.2.1∧v_7.2.2.1*8≤LIM then zax k k (List.length y_8.2.1.2.1:Int) 0 y_8.2.1.1 (List.replicate v_7.2.2.1.toNat 0) y_8.2.1.2.1 v_7 (fun q_17=>some (q_17,true)) else none))) (b:=R) (st:=fun n=>(List.range R).map fun (i:Nat)=>if i<n then z17 (C+1) (z36 m b C) i else z17 C (fM m C) i) (e:=some (zqt g.1 C g.2)) ?_ ?_ (n:=k) (by omega)
   ·refine Eq.trans ?_ l0
    have:z1s R C (fM m C)=(List.range R).map fun (i:Nat)=>if i<0 then z17 (C+1) (z36 m b C) i else z17 C (fM m C) i:=by
     unfold z1s
     exact y3e fun i _=>by rw [y5 (y3i _)]
    rw [this]
   ·intro n i hi
    have hlt:(i:Int)<(R:Int):=by omega
    have hw:=zd (i:=i) (by omega)
    have hbi:b[i]?=some (b.getD i 0):=by rw [y15,yh (by omega)]; rfl
    have hgi:((List.range R).map fun (x:Nat)=>if x<i then z17 (C+1) (z36 m b C) x else z17 C (fM m C) x)[i]?=some (z17 C (fM m C) i):=by
     rw [yr,y21 hi]
     simp only [y1y,y27,y8]
    have hset:((List.range R).map fun (x:Nat)=>if x<i then z17 (C+1) (z36 m b C) x else z17 C (fM m C) x).set i (z17 C (fM m C) i++[b.getD i 0])=(List.range R).map fun (x:Nat)=>if x<i+1 then z17 (C+1) (z36 m b C) x else z17 C (fM m C) x:=by
     rw [← z19y]
     refine y35 fun x=>?_
     rw [y3q,ym,y17]
     by_cases hx:x<R
     ·rw [yr,yr,y21 hx]
      simp only [y1y]
      by_cases e2:i=x
      ·subst e2; rw [y4 rfl,y4 hx,y4 (y3y _)]
      ·rw [y5 e2]
       by_cases e3:x<i
       ·rw [y4 e3,y4 (show x<i+1 by omega)]
       ·rw [y5 e3,y5 (show ¬ x<i+1 by omega)]
     ·rw [List.getElem?_eq_none (by simpa using hx),List.getElem?_eq_none (by simpa using hx),if_neg (by omega)]
    have hln:(z17 C (fM m C) i).length=C:=zqb _ _ _
    simp only [zcf,hlt,y9,y7,yg,yd,ym,y17,hi,yw,hgi,y6,hbi,hw,hln,yy]
    rw [y4 (by omega)]
    show zcf k n b (R:Int) ((i+1:Nat):Int) (List.set _ i (z17 C (fM m C) i++[b.getD i 0])) m _=_
    rw [hset]
   ·intro n
    have hE:((List.range R).map fun (x:Nat)=>if x<R then z17 (C+1) (z36 m b C) x else z17 C (fM m C) x)=z1s R (C+1) (z36 m b C):=by
     unfold z1s
     exact y3e fun i hi=>by rw [y4 (y19.1 hi)]
    simp only [zcf,yp,yf,ya,y8,hcw,hE,e,y6]
    rw [h.cols,y4 hcols,yd]
    refine Eq.trans l1 ?_
    unfold zqt
    split <;> rfl
  ·intro n i hi hp0
   have hlt:(i:Int)<(g.2.length:Int):=by omega
   have hw:=zd (i:=i) (by omega)
   obtain ⟨p1,p2,p3⟩:=hPg i hi
   have hne:¬ g.2.getD i 0=(C:Int):=by simpa using hp0
   have hc:0≤g.2.getD i 0∧(g.2.getD i 0).toNat<C:=⟨p2,by omega⟩
   have hiR:i<R:=by omega
   have hgx:(z6d g.1 C g.2 i)[(g.2.getD i 0).toNat]?=some ((z6d g.1 C g.2 i)[(g.2.getD i 0).toNat]'(by rw [zkc]; exact hc.2)):=yh _
   simp only [zax,hlt,y9,y7,yg,yd,hi,yw,p1,y6,h.cols,hne,yf,ya,y8,z8f,hiR,z6n g.1 hiR,zdp g.1 i (show C<C+1 by omega),zkc,hc,hgx,hw]
   rfl
  ·intro n i hi hp0
   have hlt:(i:Int)<(g.2.length:Int):=by omega
   obtain ⟨p1,p2,p3⟩:=hPg i hi
   have hne:g.2.getD i 0=(C:Int):=by simpa using hp0
   simp only [zax,hlt,y9,y7,yg,yd,hi,yw,p1,y6,h.cols,hne]
  ·intro n
   simp only [zax,yp,yf,ya,y8]
def zdw (s:She) (j:Nat) (t:List Int) (i i2:Nat):Bool:=decide (sqS s j t i i2=sqS s j t i2 i)
def z6r (s:She) (j:Nat) (t:List Int) (i:Nat):Bool:=(List.range (t.length-(i+1))).all fun d=>zdw s j t i (i+1+d)
def z56 (s:She) (j:Nat):Bool:=match s.1[j]? with
 | some t=>if 2<t.length then (List.range t.length).all (z6r s j t) else true
 | none=>true
theorem zhp {k:Nat} (hk:KK≤k) {s:She} (hs:smallSh s) (h:zz k s=true) {j:Nat} {t:List Int} (hj:s.1[j]?=some t) (h3:2<t.length) {i i2:Nat} (hi:i<t.length) (hi2:i2<t.length) (hne:i≠i2):(sqS s j t i i2).2.2.2.length≤1048576:=by
 obtain ⟨R,K,C,m1,m2,m3,_⟩:=zv1 hk hs h hj h3 hi hi2 hne
 rw [← m3,z1st]
 have:R*C≤32*32:=y1p m1.r32 m2.c32
 omega
theorem zv3 {k:Nat} (hk:KK≤k) {s:She} (hs:smallSh s) (h:zz k s=true) {j:Nat} {t:List Int} (hj:s.1[j]?=some t) (h3:2<t.length) {i:Nat} (hi:i<t.length) (E:She→Int→Int→Int→Option (Int×Int×Int)) :
  (z6r s j t i=true→z3k k k s (j:Int) (t.length:Int) (i:Int) ((i+1:Nat):Int) E=E s (j:Int) (t.length:Int) (i:Int))∧(z6r s j t i=false→∃ a b:Int,z3k k k s (j:Int) (t.length:Int) (i:Int) ((i+1:Nat):Int) E=some ((j:Int),a,b)):=by
 have hK:=zf
 obtain ⟨hC,_,_⟩:=z1b hk h
 have h4:=(hC.simp t (yl hj)).len4
 have key:=zbh (L:=fun n z=>z3k k n s (j:Int) (t.length:Int) (i:Int) (((i+1:Nat):Int)+z) E) (b:=t.length-(i+1)) (p:=fun d=>zdw s j t i (i+1+d)) (e:=E s (j:Int) (t.length:Int) (i:Int)) (Q:=fun r=>∃ a b:Int,r=some ((j:Int),a,b)) ?_ ?_ ?_ (n:=k) (by omega)
 ·rw [y58] at key
  exact key
 ·intro n d hd hp
  have e1:((i+1:Nat):Int)+(d:Int)=((i+1+d:Nat):Int):=by omega
  have e2:((i+1:Nat):Int)+((d+1:Nat):Int)=((i+1+d+1:Nat):Int):=by omega
  have hlt:((i+1+d:Nat):Int)<(t.length:Int):=by omega
  have hw:=zd (i:=i+1+d) (by omega)
  have hsq:decide (sqS s j t i (i+1+d)=sqS s j t (i+1+d) i)=true:=hp
  show z3k k (n+1) s (j:Int) (t.length:Int) (i:Int) (((i+1:Nat):Int)+(d:Int)) E=z3k k n s (j:Int) (t.length:Int) (i:Int) (((i+1:Nat):Int)+((d+1:Nat):Int)) E
  rw [e1,e2]
  simp only [z3k,hlt,y9,y7,zbi hk hs h hj h3 hi (show i+1+d<t.length by omega) (by omega),zbi hk hs h hj h3 (show i+1+d<t.length by omega) hi (by omega),y6,zqs hk (zhp hk hs h hj h3 hi (show i+1+d<t.length by omega) (by omega)),hsq,y10,ya,y8,hw]
 ·intro n d hd hp
  have e1:((i+1:Nat):Int)+(d:Int)=((i+1+d:Nat):Int):=by omega
  have hlt:((i+1+d:Nat):Int)<(t.length:Int):=by omega
  have hsq:decide (sqS s j t i (i+1+d)=sqS s j t (i+1+d) i)=false:=hp
  refine ⟨(i:Int),((i+1+d:Nat):Int),?_⟩
  show z3k k (n+1) s (j:Int) (t.length:Int) (i:Int) (((i+1:Nat):Int)+(d:Int)) E=_
  rw [e1]
  simp only [z3k,hlt,y9,y7,zbi hk hs h hj h3 hi (show i+1+d<t.length by omega) (by omega),zbi hk hs h hj h3 (show i+1+d<t.length by omega) hi (by omega),y6,zqs hk (zhp hk hs h hj h3 hi (show i+1+d<t.length by omega) (by omega)),hsq,y2m]
 ·intro n
  have e1:((i+1:Nat):Int)+((t.length-(i+1):Nat):Int)=(t.length:Int):=by omega
  show z3k k (n+1) s (j:Int) (t.length:Int) (i:Int) (((i+1:Nat):Int)+((t.length-(i+1):Nat):Int)) E=_
  rw [e1]
  simp only [z3k,yp,yf,ya,y8]
theorem z19z {k:Nat} (hk:KK≤k) {s:She} (hs:smallSh s) (h:zz k s=true) {j:Nat} {t:List Int} (hj:s.1[j]?=some t) (E:She→Int→Option (Int×Int×Int)) :
  (z56 s j=true→z4g k k s (j:Int) (t.length:Int) 0 E=E s (j:Int))∧(z56 s j=false→∃ a b:Int,z4g k k s (j:Int) (t.length:Int) 0 E=some ((j:Int),a,b)):=by
 have hK:=zf
 obtain ⟨hC,_,_⟩:=z1b hk h
 have h4:=(hC.simp t (yl hj)).len4
 unfold z56
 rw [hj]
 simp only
 by_cases h3:2<t.length
 ·rw [y4 h3]
  refine zbh (L:=fun n i=>z4g k n s (j:Int) (t.length:Int) i E) (b:=t.length) (p:=z6r s j t) (e:=E s (j:Int)) (Q:=fun r=>∃ a b:Int,r=some ((j:Int),a,b)) ?_ ?_ ?_ (n:=k) (by omega)
  ·intro n i hi hp
   have hlt:(i:Int)<(t.length:Int):=by omega
   have hlt3:(2:Int)<(t.length:Int):=by omega
   have hw:=zd (i:=i) (by omega)
   have:=(zv3 hk hs h hj h3 hi (fun s_2 k_3 n_4 i_5=>z4g k n s_2 k_3 n_4 (z6 (i_5+1)) E)).1 hp
   simp only [z4g,hlt,hlt3,y9,y7,hw,this]
  ·intro n i hi hp
   have hlt:(i:Int)<(t.length:Int):=by omega
   have hlt3:(2:Int)<(t.length:Int):=by omega
   have hw:=zd (i:=i) (by omega)
   obtain ⟨a,b,this⟩:=(zv3 hk hs h hj h3 hi (fun s_2 k_3 n_4 i_5=>z4g k n s_2 k_3 n_4 (z6 (i_5+1)) E)).2 hp
   refine ⟨a,b,?_⟩
   simp only [z4g,hlt,hlt3,y9,y7,hw,this]
  ·intro n
   simp only [z4g,yp,yf,ya,y8]
 ·rw [y5 h3]
  refine ⟨fun _=>?_,fun z=>by cases z⟩
  obtain ⟨n,rfl⟩:∃ n,k=n+1:=⟨k-1,by omega⟩
  have hlt3:¬ (2:Int)<(t.length:Int):=by omega
  simp only [z4g,hlt3,yf,ya,y8,ite_self]
theorem z1a0 {k:Nat} (hk:KK≤k) {s:She} (hs:smallSh s) (h:zz k s=true) {j:Nat} {t:List Int} (hj:s.1[j]?=some t) (h3:2<t.length) {i:Nat} (hi:i<t.length) (x15:List (List Int)) (x16 x17 x31 x32:Int) (E:List Int→Int→List (List Int)→Int→Int→Int→Int→List Int→She→Option (Int×Int×Bool)) :
  (z6r s j t i=true→z33 k k t (j:Int) (i:Int) ((i+1:Nat):Int) x15 x16 x17 x31 x32 ((zg s.1 t).map fun i:Nat=>(i:Int)) s E=E t (j:Int) x15 x16 x17 x31 x32 ((zg s.1 t).map fun i:Nat=>(i:Int)) s)∧(z6r s j t i=false→∃ a b:Int,z33 k k t (j:Int) (i:Int) ((i+1:Nat):Int) x15 x16 x17 x31 x32 ((zg s.1 t).map fun i:Nat=>(i:Int)) s E=some (a,b,true)):=by
 have hK:=zf
 obtain ⟨hC,_,_⟩:=z1b hk h
 have h4:=(hC.simp t (yl hj)).len4
 have hF:∀ i,i<t.length→i<(zg s.1 t).length∧((zg s.1 t).map fun i:Nat=>(i:Int))[i]?=some (((zg s.1 t).getD i 0:Nat):Int):=fun i hi=>by
  obtain ⟨f1,f2,_⟩:=zkb hC hj h3 hi
  exact ⟨by omega,by rw [yr,f2]; rfl⟩
 have step:∀ n d,d<t.length-(i+1)→z33 k (n+1) t (j:Int) (i:Int) ((i+1+d:Nat):Int) x15 x16 x17 x31 x32 ((zg s.1 t).map fun i:Nat=>(i:Int)) s E=(if (!decide (sqS s j t i (i+1+d)=sqS s j t (i+1+d) i))=true then (z9p k s.1 (((zg s.1 t).getD i 0:Nat):Int)).bind fun r_15=>(if 0≤((i+1+d-1:Nat):Int)∧(((i+1+d-1:Nat):Int)).toNat<List.length r_15 then (r_15[(((i+1+d-1:Nat):Int)).toNat]?).bind fun y_16=>some ((j:Int),y_16,true) else none) else z33 k n t (j:Int) (i:Int) ((i+1+d+1:Nat):Int) x15 x16 x17 x31 x32 ((zg s.1 t).map fun i:Nat=>(i:Int)) s E):=by
  intro n d hd
  have hi2:i+1+d<t.length:=by omega
  have hlt:((i+1+d:Nat):Int)<(t.length:Int):=by omega
  have hw:=zd (i:=i+1+d) (by omega)
  have hw1:z6 (((i+1+d:Nat):Int)-1)=((i+1+d-1:Nat):Int):=by rw [ze (by omega) (by omega)]; omega
  obtain ⟨a1,a2,a3⟩:=zqr hk hs h hj h3 hi hi2 (by omega)
  obtain ⟨b1,b2,b3⟩:=zqr hk hs h hj h3 hi2 hi (by omega)
  rw [y4 (by omega)] at a2 a3
  rw [y5 (by omega)] at b2 b3
  obtain ⟨g1,g2⟩:=hF i hi
  obtain ⟨g3,g4⟩:=hF (i+1+d) hi2
  simp only [z33,hlt,y9,y7,a1,y6,ym,yg,yd,g1,yw,g2,hw1,a2,a3,b1,g3,g4,b2,b3,z19w hk (zhp hk hs h hj h3 hi hi2 (by omega)),hw]
 have key:=zbh (L:=fun n z=>z33 k n t (j:Int) (i:Int) (((i+1:Nat):Int)+z) x15 x16 x17 x31 x32 ((zg s.1 t).map fun i:Nat=>(i:Int)) s E) (b:=t.length-(i+1)) (p:=fun d=>zdw s j t i (i+1+d)) (e:=E t (j:Int) x15 x16 x17 x31 x32 ((zg s.1 t).map fun i:Nat=>(i:Int)) s) (Q:=fun r=>∃ a b:Int,r=some (a,b,true)) ?_ ?_ ?_ (n:=k) (by omega)
 ·rw [y58] at key
  exact key
 ·intro n d hd hp
  have e1:((i+1:Nat):Int)+(d:Int)=((i+1+d:Nat):Int):=by omega
  have e2:((i+1:Nat):Int)+((d+1:Nat):Int)=((i+1+d+1:Nat):Int):=by omega
  have hp':decide (sqS s j t i (i+1+d)=sqS s j t (i+1+d) i)=true:=hp
  show z33 k (n+1) t (j:Int) (i:Int) (((i+1:Nat):Int)+(d:Int)) x15 x16 x17 x31 x32 ((zg s.1 t).map fun i:Nat=>(i:Int)) s E=z33 k n t (j:Int) (i:Int) (((i+1:Nat):Int)+((d+1:Nat):Int)) x15 x16 x17 x31 x32 ((zg s.1 t).map fun i:Nat=>(i:Int)) s E
  rw [e1,e2,step n d hd,y5 (by rw [hp']; simp)]
 ·intro n d hd hp
  have e1:((i+1:Nat):Int)+(d:Int)=((i+1+d:Nat):Int):=by omega
  have hp':decide (sqS s j t i (i+1+d)=sqS s j t (i+1+d) i)=false:=hp
  obtain ⟨_,_,f,f3,f4,f5⟩:=zkb hC hj h3 hi
  have hlen:i+1+d-1<(zg s.1 f).length:=by omega
  have hgf:((zg s.1 f).map fun i:Nat=>(i:Int))[i+1+d-1]?=some (((zg s.1 f)[i+1+d-1]:Nat):Int):=by rw [yr,yh hlen]; rfl
  refine ⟨(j:Int),(((zg s.1 f)[i+1+d-1]:Nat):Int),?_⟩
  show z33 k (n+1) t (j:Int) (i:Int) (((i+1:Nat):Int)+(d:Int)) x15 x16 x17 x31 x32 ((zg s.1 t).map fun i:Nat=>(i:Int)) s E=_
  rw [e1,step n d hd,y4 (by rw [hp']; rfl),zbe hk hC f3]
  simp only [y6,ym,yg,yd,hlen,yw,y7,hgf]
 ·intro n
  have e1:((i+1:Nat):Int)+((t.length-(i+1):Nat):Int)=(t.length:Int):=by omega
  show z33 k (n+1) t (j:Int) (i:Int) (((i+1:Nat):Int)+((t.length-(i+1):Nat):Int)) x15 x16 x17 x31 x32 ((zg s.1 t).map fun i:Nat=>(i:Int)) s E=_
  rw [e1]
  simp only [z33,yp,yf,ya,y8]
theorem z1a1 {k:Nat} (hk:KK≤k) {l:List Int} (hl:l.length≤1000000000) (x:Int):zd7 k l x=some (l.contains x):=by
 have hK:=zf
 unfold zd7
 have:=zmg (L:=fun n i=>zgu k n l x i (some false)) (p:=fun y=>!decide (y=x)) (r:=some true) (e:=some false) l ?_ ?_ (n:=k) (by omega)
 ·refine Eq.trans this ?_
  by_cases h:l.contains x=true
  ·rw [h,y5]
   rw [y16]
   intro q
   have:=q x (y5x.1 h)
   simp at this
  ·have h':l.contains x=false:=by simpa using h
   rw [h',y4]
   rw [y16]
   intro y hy
   have:y≠x:=fun e=>h (y5x.2 (e▸hy))
   simpa using this
 ·intro n i y hi hlt
  have hw:=zd (i:=i) (by omega)
  simp only [zgu,hlt,y9,y7,yg,yd,hi,y6,hw]
  by_cases e:y=x <;> simp [e]
 ·intro n
  simp only [zgu,yp,yf,ya,y8]
theorem z1a2 {k:Nat} (hk:KK≤k) {l:List Int} (hl:l.length≤1000000000) (x:Int):zck k l x=some (l.contains x):=by
 have hK:=zf
 unfold zck zt5
 rw [zav (L:=fun n i=>zfp k n l x (l.length:Int) i (some (-1))) (p:=fun y=>decide (x=y)) l ?_ ?_ (n:=k) (by omega)]
 ·rw [y6,zdo]
  congr 1
  rw [y3p,y37,y5x]
  constructor
  ·rintro ⟨y,hy,h⟩; rw [of_decide_eq_true h]; exact hy
  ·intro h; exact ⟨x,h,yc rfl⟩
 ·intro n i y hi hlt
  have hw:=zd (i:=i) (by omega)
  simp only [zfp,hlt,y9,y7,yg,yd,hi,y6,hw]
 ·intro n
  simp [zfp]
theorem z1a3 {d:Nat} (h:d<10):z_u8 (UInt8.ofNat (48+d))=((48+d:Nat):Int):=by
 have:(UInt8.ofNat (48+d)).toNat=48+d:=by simp [UInt8.toNat_ofNat']; omega
 show ((UInt8.ofNat (48+d)).toNat:Int)=_
 rw [this]
theorem zv4 {d:Nat} (h:d<10):z78 (z6 (48+(d:Int)))=((48+d:Nat):Int):=by
 rw [ze (by omega) (by omega)]
 unfold z78 IntKind.wrap
 simp [IntKind.bits,IntKind.signed]; omega
def z3d (u:Nat):List Int:=if u=0 then [] else ((Lib.decDigits u).map z_u8).reverse
theorem zqu {u:Nat} (h:u≠0):z3d u=((48+u % 10:Nat):Int)::z3d (u / 10):=by
 unfold z3d
 rw [y5 h]
 by_cases h1:u<10
 ·rw [Lib.decDigits,dif_pos h1,y4 (by omega)]
  have:=z1a3 h1
  rw [Nat.mod_eq_of_lt h1,y1n,y38,this]
  rfl
 ·rw [Lib.decDigits,dif_neg h1,y5 (by omega)]
  have:=z1a3 (d:=u % 10) (by omega)
  rw [y1z,y1n,y38,this,y5y]
  rfl
theorem zv5:∀ (j u:Nat),u<10 ^ j→(z3d u).length≤j
 | 0,u,h=>by
  have:u=0:=by simpa using h
  subst this; simp [z3d]
 | j+1,u,h=>by
  by_cases h0:u=0
  ·subst h0; simp [z3d]
  ·rw [zqu h0,y1g]
   have:=zv5 j (u / 10) (by rw [Nat.pow_succ] at h; omega)
   omega
theorem zv6 {k:Nat} {n0:Int} {E:Int→List Int→Option (List UInt8)}:∀ (j u n:Nat) (m:Int) (q:List Int),(m=(u:Int)∨m = -(u:Int))→u<10 ^ j→u≤9223372036854775808 → -9223372036854775808≤m→m≤9223372036854775807→q.length+j≤100→j<n→z9l k n n0 m q E=E n0 (q++z3d u)
 | j,u,0,m,q,_,_,_,_,_,_,h=>by omega
 | 0,u,n+1,m,q,hm,hu,_,_,_,_,_=>by
  have h0:u=0:=by simpa using hu
  subst h0
  have hm0:m=0:=by omega
  subst hm0
  simp [z9l,z3d]
 | j+1,u,n+1,m,q,hm,hu,hub,hm1,hm2,hq,hn=>by
  have hL:=z1r
  by_cases h0:u=0
  ·subst h0
   have hm0:m=0:=by omega
   subst hm0
   simp [z9l,z3d]
  ·have hm0:¬ m=0:=by omega
   have hlim:(q.length+1)*1≤LIM:=by omega
   have hd:u % 10<10:=by omega
   have hj:u / 10<10 ^ j:=by rw [Nat.pow_succ] at hu; omega
   rcases hm with hm | hm
   ·subst hm
    have t1:Int.tmod (u:Int) 10=((u % 10:Nat):Int):=by rw [y2t (by omega)]; omega
    have t2:Int.tdiv (u:Int) 10=((u / 10:Nat):Int):=by rw [y54 (by omega)]; omega
    have w2:z6 ((u / 10:Nat):Int)=((u / 10:Nat):Int):=ze (by omega) (by omega)
    have hlt:¬ (((u % 10:Nat):Int)<0):=by omega
    have ih:=zv6 (k:=k) (n0:=n0) (E:=E) j (u / 10) n ((u / 10:Nat):Int) (q++[((48+u % 10:Nat):Int)]) (.inl rfl) hj (by omega) (by omega) (by omega) (by simp; omega) (by omega)
    unfold z9l
    rw [yb hm0,y4 (by rfl),t1,t2,yb hlt,y5 (by simp),zv4 hd,w2,yy,y4 hlim,ih,y12,zqu h0]
    rfl
   ·subst hm
    have t1:Int.tmod (-(u:Int)) 10 = -((u % 10:Nat):Int):=by rw [Int.neg_tmod,y2t (by omega)]; omega
    have t2:Int.tdiv (-(u:Int)) 10 = -((u / 10:Nat):Int):=by rw [Int.neg_tdiv,y54 (by omega)]; omega
    have w2:z6 (-((u / 10:Nat):Int)) = -((u / 10:Nat):Int):=ze (by omega) (by omega)
    have ih:=zv6 (k:=k) (n0:=n0) (E:=E) j (u / 10) n (-((u / 10:Nat):Int)) (q++[((48+u % 10:Nat):Int)]) (.inr rfl) hj (by omega) (by omega) (by omega) (by simp; omega) (by omega)
    unfold z9l
    rw [yb hm0,y4 (by rfl),t1,t2,w2]
    by_cases hz:u % 10=0
    ·have hlt:¬ (-((u % 10:Nat):Int)<0):=by omega
     have hw:z78 (z6 (48 + -((u % 10:Nat):Int)))=((48+u % 10:Nat):Int):=by
      rw [hz]
      exact zv4 (d:=0) (by omega)
     rw [yb hlt,y5 (by simp),hw,yy,y4 hlim,ih,y12,zqu h0]
     rfl
    ·have hlt : -((u % 10:Nat):Int)<0:=by omega
     have hw:z78 (z6 (48+z6 (0 - -((u % 10:Nat):Int))))=((48+u % 10:Nat):Int):=by
      rw [show (0:Int) - -((u % 10:Nat):Int)=((u % 10:Nat):Int) by omega,ze (x:=((u % 10:Nat):Int)) (by omega) (by omega)]
      exact zv4 hd
     rw [yc hlt,y4 rfl,hw,yy,y4 hlim,ih,y12,zqu h0]
     rfl
theorem zv7 {k:Nat} {q:List Int} (hq:q.length≤1000) {E:List Int→Option (List UInt8)}:∀ (j n:Nat) (acc:List Int),j≤q.length→acc.length+j≤1000→j<n→zcu k n ((j:Int)-1) q acc E=E (acc++(q.take j).reverse)
 | j,0,_,_,_,h=>by omega
 | 0,n+1,acc,_,_,_=>by
  have:¬ (0≤((0:Nat):Int)-1):=by omega
  simp only [zcu,this,yf,ya,y8,List.take_zero,List.reverse_nil,y1t]
 | j+1,n+1,acc,hj,ha,hn=>by
  have hL:=z1r
  have e0:((j+1:Nat):Int)-1=(j:Int):=by omega
  have hjl:j<q.length:=by omega
  have ew:z6 ((j:Int)-1)=(j:Int)-1:=ze (by omega) (by omega)
  have hlim:(acc.length+1)*1≤LIM:=by omega
  have ih:=zv7 (k:=k) hq (E:=E) j n (acc++[q[j]]) (by omega) (by simp; omega) (by omega)
  rw [e0]
  simp only [zcu,yg,y9,y7,yd,hjl,yw,yh hjl,y6,yy,hlim,ew,ih]
  rw [List.take_succ_eq_append_getElem hjl,y5y]
  simp
theorem z1a4 (l:List UInt8):z99 (l.map z_u8)=l:=by
 unfold z99
 rw [y34]
 have:((fun x:Int=>x.toNat.toUInt8) ∘ z_u8)=id:=by
  funext b
  simp [z_u8]
 simp [this]
theorem z1a5 {k:Nat} (hk:KK≤k) {n:Int} (h1 : -9223372036854775808≤n) (h2:n≤9223372036854775807):zgm k n=some (Lib.itoa n):=by
 have hK:=zf
 have hL:=z1r
 unfold zgm Lib.itoa
 by_cases h0:n=0
 ·subst h0
  rw [yc rfl,y4 rfl,y5 (by omega)]
  rw [show (0:Int).toNat=0 from rfl,Lib.decDigits,dif_pos (by omega)]
  rfl
 ·have hp:n.natAbs<10 ^ 19:=by
   have:n.natAbs≤9223372036854775808:=by omega
   exact y5t this (by decide)
  have hl:=zv5 19 n.natAbs hp
  have hu:n.natAbs≠0:=by omega
  have hr:z3d n.natAbs=((Lib.decDigits n.natAbs).map z_u8).reverse:=by unfold z3d; rw [if_neg hu]
  rw [yb h0,y5 (by simp),zv6 19 n.natAbs k n [] (by omega) hp (by omega) h1 h2 (by simp) (by omega),y2z]
  by_cases hn:n<0
  ·have hl1:((z3d n.natAbs).length+1)*1≤LIM:=by omega
   have hb:=zv7 (k:=k) (q:=z3d n.natAbs++[45]) (by simp; omega) (E:=fun q=>some (z99 q)) (z3d n.natAbs++[45]).length k [] (yx _) (by simp; omega) (by simp; omega)
   have hw:z6 (((z3d n.natAbs++[45]).length:Int)-1)=((z3d n.natAbs++[45]).length:Int)-1:=ze (by omega) (by simp; omega)
   rw [yc hn,y4 rfl,y4 hn,yy,y4 hl1,hw,hb,y2k,y2z,hr]
   congr 1
   have e:(((Lib.decDigits n.natAbs).map z_u8).reverse++[(45:Int)]).reverse=((45:UInt8)::Lib.decDigits n.natAbs).map z_u8:=by
    rw [y5y,List.reverse_reverse]; rfl
   rw [e,z1a4]
  ·have hb:=zv7 (k:=k) (q:=z3d n.natAbs) (by omega) (E:=fun q=>some (z99 q)) (z3d n.natAbs).length k [] (yx _) (by simp; omega) (by omega)
   have hw:z6 (((z3d n.natAbs).length:Int)-1)=((z3d n.natAbs).length:Int)-1:=ze (by omega) (by omega)
   have hna:n.natAbs=n.toNat:=by omega
   rw [yb hn,y5 (by simp),y5 hn,hw,hb,y2k,y2z,hr,List.reverse_reverse,z1a4,hna]
theorem z1a6 {n:Int} (h1 : -9223372036854775808≤n) (h2:n≤9223372036854775807):zjh n=some (Lib.itoa n):=by
 unfold zjh z17o
 rw [y4 ⟨rfl,h1,h2⟩]; rfl
theorem z1sy {pre:List (List UInt8)} (h:pre≠[]) (x sep:List UInt8):Lib.join (pre++[x]) sep=Lib.join pre sep++sep++x:=by
 cases pre with
 | nil=>exact absurd rfl h
 | cons y r =>
  rw [y3n,Lib.join_cons,Lib.join_cons]
  unfold Lib.joinTail
  simp
theorem zqv {u j:Nat} (h:u<10 ^ j) (hj:1≤j):(Lib.decDigits u).length≤j:=by
 by_cases h0:u=0
 ·subst h0; rw [Lib.decDigits,dif_pos (by omega)]; exact hj
 ·have:=zv5 j u h
  unfold z3d at this
  rw [y5 h0] at this
  simpa using this
theorem z1a7 {c:UInt8} {B:Nat}:∀ (r:List (List UInt8)),(∀ w∈r,w.length≤B)→(Lib.joinTail [c] r).length≤r.length*(B+1)
 | [],_=>by simp [Lib.joinTail]
 | y::r,h=>by
  have e:Lib.joinTail [c] (y::r)=[c]++y++Lib.joinTail [c] r:=by simp [Lib.joinTail]
  have h1:=z1a7 (c:=c) r fun w hw=>h w (by simp [hw])
  have h2:=h y (by simp)
  rw [e,yk,yk,yy,y1g,y2d]
  omega
theorem zv8 {c:UInt8} {B:Nat} (ws:List (List UInt8)) (h:∀ w∈ws,w.length≤B):(Lib.join ws [c]).length≤ws.length*(B+1):=by
 cases ws with
 | nil=>rw [Lib.join_nil]; simp
 | cons y r =>
  have h1:=z1a7 (c:=c) (B:=B) r fun w hw=>h w (by simp [hw])
  have h2:=h y (by simp)
  rw [Lib.join_cons,yk,y1g,y2d]
  omega
theorem z1sz {sep:List UInt8} {ws:List (List UInt8)} (h:∀ w∈ws,w≠[]):Lib.join ws sep=[]↔ws=[]:=by
 cases ws with
 | nil=>rw [Lib.join_nil]; simp
 | cons y r =>
  rw [Lib.join_cons]
  exact ⟨fun z=>absurd (y5a.1 z).1 (h y (by simp)),fun z=>by cases z⟩
theorem z1t0 (x sep:List UInt8):Lib.join [x] sep=x:=by rw [Lib.join_cons]; simp [Lib.joinTail]
theorem z1t1 (u:Nat):Lib.decDigits u≠[]:=by
 rw [Lib.decDigits]
 split <;> simp
theorem z1a8 {n:Int} (h:0≤n∧n<10000000):(Lib.itoa n).length≤7∧Lib.itoa n≠[]:=by
 unfold Lib.itoa
 rw [y5 (by omega)]
 exact ⟨zqv (by omega) (by omega),z1t1 _⟩
def z3w (l:List Int):List UInt8:=if l=[] then [45] else Lib.join (l.map Lib.itoa) [44]
def zdx (l:List Int):Prop:=l.length≤64∧∀ x∈l,0≤x∧x<10000000
theorem zqw {l:List Int} (h:zdx l):∀ w∈l.map Lib.itoa,w.length≤7∧w≠[]:=fun w hw=>by
 obtain ⟨x,hx,rfl⟩:=y1c.1 hw
 exact z1a8 (h.2 x hx)
theorem zqx {l:List Int} (h:zdx l):(z3w l).length≤512∧z3w l≠[]:=by
 unfold z3w
 by_cases e:l=[]
 ·rw [y4 e]; simp
 ·rw [y5 e]
  have h1:=zv8 (c:=44) (l.map Lib.itoa) fun w hw=>(zqw h w hw).1
  rw [ym] at h1
  have:=h.1
  refine ⟨by omega,fun z=>e ?_⟩
  have:=(z1sz fun w hw=>(zqw h w hw).2).1 z
  exact List.map_eq_nil_iff.1 this
theorem zqy {k:Nat} (hk:KK≤k) {l:List Int} (h:zdx l):zcw k l=some (z3w l):=by
 have hK:=zf
 obtain ⟨hl,hx⟩:=h
 unfold zcw z3w
 by_cases e:l=[]
 ·subst e; simp
 rw [y5 e]
 have hpos:0<l.length:=y52.2 e
 rw [yb (by omega),y5 (by simp)]
 refine z2b (A:=List UInt8) (L:=fun n i out=>zcv k n l out i (fun out_5=>some out_5)) (I:=fun pre out=>out=Lib.join (pre.map Lib.itoa) [44]) (G:=fun _ _=>some (Lib.join (l.map Lib.itoa) [44])) l ?_ ?_ k (by omega) [] (by rw [y38,Lib.join_nil])
 ·intro n pre x post out hxp ho ih hg hlt
  have hw:=zd (i:=pre.length) (by omega)
  have hxx:=hx x (yl hg)
  have hi:=(z1a8 hxx).1
  have hpre:zdx pre:=⟨by omega,fun y hy=>hx y (by rw [hxp]; simp [hy])⟩
  have hol:out.length≤512:=by
   rw [ho]
   have h1:=zv8 (c:=44) (pre.map Lib.itoa) fun w hw=>(zqw hpre w hw).1
   rw [ym] at h1
   have:=hpre.1
   omega
  have b1:out.length+1≤9223372036854775807:=by omega
  have b2:(out++[(44:UInt8)]).length+(Lib.itoa x).length≤9223372036854775807:=by rw [yk,yy]; omega
  have b3:out.length+(Lib.itoa x).length≤9223372036854775807:=by omega
  simp only [zcv,hlt,y9,y7,yy,b1,b2,b3,yg,yd,hg,y6,z1a5 hk (show -9223372036854775808≤x by omega) (show x≤9223372036854775807 by omega),hw]
  by_cases c:pre=[]
  ·subst c
   rw [yb (by simp),y5 (by simp)]
   refine ih _ ?_
   rw [ho,y38,Lib.join_nil,y2z,y2z,y1n,y38,z1t0]
  ·have:0<pre.length:=y52.2 c
   rw [yc (by omega),y4 rfl]
   refine ih _ ?_
   rw [List.map_append,List.map_cons,List.map_nil,z1sy (by simpa using c),ho]
 ·intro n out ho
  subst ho
  simp only [zcv,yp,yf,ya,y8]
theorem zqz {k:Nat} (hk:KK≤k) {l:List Int} (h:zdx l):zcg k l=some (z3w l):=by
 have hK:=zf
 have hL:=z1r
 have hwf:=zqw h
 obtain ⟨hl,hx⟩:=h
 unfold zcg z3w
 rw [yb (by omega),y5 (by simp)]
 have hc:zq2 k l ()=some false:=by
  unfold zq2 zud
  rw [zav (L:=fun n i=>zhd k n l () (l.length:Int) i (some (-1))) (p:=fun y=>!decide (-1000000000000≤y∧y≤1000000000000)) l ?_ ?_ (n:=k) (by omega)]
  ·rw [y6,zdo]
   congr 1
   rw [y3b]
   intro y hy
   have:=hx y hy
   rw [yc (by omega)]; simp
  ·intro n i y hi hlt
   have hw:=zd (i:=i) (by omega)
   simp only [zhd,zuc,zub,z6m,hlt,y9,y7,yg,yd,hi,y6,hw]
  ·intro n
   simp [zhd]
 rw [hc]
 simp only [y6,ya,y8]
 by_cases e:l=[]
 ·subst e; simp
 rw [y5 e]
 have hpos:0<l.length:=y52.2 e
 rw [yb (by omega),y5 (by simp)]
 refine z2b (A:=List (List UInt8)) (L:=fun n i q=>zhe k n l (l.length:Int) i q (fun q_5=>(zue [44] q_5).bind fun y_6=>some y_6.1.1)) (I:=fun pre q=>q=pre.map Lib.itoa) (G:=fun _ _=>some (Lib.join (l.map Lib.itoa) [44])) l ?_ ?_ k (by omega) [] rfl
 ·intro n pre x post q hxp hq ih hg hlt
  have hw:=zd (i:=pre.length) (by omega)
  have hxx:=hx x (yl hg)
  have b:(q.length+1)*16≤LIM:=by rw [hq,ym]; omega
  simp only [zhe,hlt,y9,y7,yg,yd,hg,y6,z1a6 (show -9223372036854775808≤x by omega) (show x≤9223372036854775807 by omega),yy,b,hw]
  exact ih _ (by rw [hq,y1z]; rfl)
 ·intro n q hq
  subst hq
  have h1:=zv8 (c:=44) (l.map Lib.itoa) fun w hw=>(hwf w hw).1
  rw [ym] at h1
  simp only [zhe,yp,yf,ya,y8]
  unfold zue
  rw [y4 ⟨by rw [ym]; omega,by omega⟩]
  rfl
theorem zv9 {b:Nat} {p:Nat→Bool} (h:(List.range b).all p=false):∃ i,i<b∧p i=false∧∀ x,x<i→p x=true:=by
 have key:∀ n,n≤b→(∀ x,x<n→p x=true)∨∃ i,i<n∧p i=false∧∀ x,x<i→p x=true:=by
  intro n
  induction n with
  | zero=>intro _; exact .inl fun x hx=>absurd hx (y3i _)
  | succ n ih =>
   intro hn
   rcases ih (by omega) with h1 | ⟨i,h1,h2,h3⟩
   ·cases hp:p n with
    | true =>
     refine .inl fun x hx=>?_
     rcases y26 x n with h4 | h4
     ·exact h1 x h4
     ·have:x=n:=by omega
      subst this; exact hp
    | false=>exact .inr ⟨n,by omega,hp,h1⟩
   ·exact .inr ⟨i,by omega,h2,h3⟩
 rcases key b (yx _) with h1 | ⟨i,h1,h2,h3⟩
 ·obtain ⟨x,hx,hpx⟩:=List.all_eq_false.1 h
  rw [h1 x (y19.1 hx)] at hpx
  simp at hpx
 ·exact ⟨i,h1,h2,h3⟩
theorem zhq {R:Type} {L:Nat→Int→R} {b i0:Nat} {p:Nat→Bool} {e:R} (h0:i0<b) (hw:∀ x,x<i0→p x=true) (h1:∀ n (i:Nat),i<b→p i=true→L (n+1) (i:Int)=L n ((i+1:Nat):Int)) (h3:∀ n,L (n+1) (i0:Int)=e) {n:Nat} (hn:b<n):L n 0=e :=
 (zbh (L:=L) (b:=i0) (p:=p) (e:=e) (Q:=fun _=>True) (fun n i hi hp=>h1 n i (by omega) hp) (fun _ _ _ _=>trivial) h3 (show i0<n by omega)).1 (y16.2 fun x hx=>hw x (y19.1 hx))
structure FirstW (s:She) (j:Nat) (t:List Int) (i d:Nat):Prop where
 hj:s.1[j]?=some t
 h3:2<t.length
 hi:i<t.length
 hd:i+1+d<t.length
 j0:∀ x,x<j→z56 s x=true
 jn:z56 s j=false
 i0:∀ x,x<i→z6r s j t x=true
 ine:z6r s j t i=false
 d0:∀ x,x<d→zdw s j t i (i+1+x)=true
 dn:zdw s j t i (i+1+d)=false
theorem z1t2 {s:She} (h:(List.range s.1.length).all (z56 s)=false):∃ j t i d,FirstW s j t i d:=by
 obtain ⟨j,hj,hjn,hj0⟩:=zv9 h
 have hg:s.1[j]?=some s.1[j]:=yh hj
 have hc:=hjn
 unfold z56 at hc
 rw [hg] at hc
 simp only at hc
 by_cases h3:2<(s.1[j]).length
 ·rw [y4 h3] at hc
  obtain ⟨i,hi,hin,hi0⟩:=zv9 hc
  have hr:=hin
  unfold z6r at hr
  obtain ⟨d,hd,hdn,hd0⟩:=zv9 hr
  exact ⟨j,_,i,d,hg,h3,hi,by omega,hj0,hjn,hi0,hin,hd0,hdn⟩
 ·rw [y5 h3] at hc; cases hc
theorem z1t3 {k:Nat} (hk:KK≤k) {s:She} (hs:smallSh s) (h:zz k s=true) {j i d:Nat} {t:List Int} (F:FirstW s j t i d) (E:She→Int→Int→Int→Option (Int×Int×Int)) :
  z3k k k s (j:Int) (t.length:Int) (i:Int) ((i+1:Nat):Int) E=some ((j:Int),(i:Int),((i+1+d:Nat):Int)):=by
 have hK:=zf
 obtain ⟨hC,_,_⟩:=z1b hk h
 have hj:=F.hj
 have h3:=F.h3
 have hi:=F.hi
 have hdd:=F.hd
 have h4:=(hC.simp t (yl hj)).len4
 have key:=zhq (L:=fun n z=>z3k k n s (j:Int) (t.length:Int) (i:Int) (((i+1:Nat):Int)+z) E) (b:=t.length-(i+1)) (i0:=d) (p:=fun d=>zdw s j t i (i+1+d)) (e:=some ((j:Int),(i:Int),((i+1+d:Nat):Int))) (by omega) F.d0 ?_ ?_ (n:=k) (by omega)
 ·rw [y58] at key
  exact key
 ·intro n d hd hp
  have e1:((i+1:Nat):Int)+(d:Int)=((i+1+d:Nat):Int):=by omega
  have e2:((i+1:Nat):Int)+((d+1:Nat):Int)=((i+1+d+1:Nat):Int):=by omega
  have hlt:((i+1+d:Nat):Int)<(t.length:Int):=by omega
  have hw:=zd (i:=i+1+d) (by omega)
  have hsq:decide (sqS s j t i (i+1+d)=sqS s j t (i+1+d) i)=true:=hp
  show z3k k (n+1) s (j:Int) (t.length:Int) (i:Int) (((i+1:Nat):Int)+(d:Int)) E=z3k k n s (j:Int) (t.length:Int) (i:Int) (((i+1:Nat):Int)+((d+1:Nat):Int)) E
  rw [e1,e2]
  simp only [z3k,hlt,y9,y7,zbi hk hs h hj h3 hi (show i+1+d<t.length by omega) (by omega),zbi hk hs h hj h3 (show i+1+d<t.length by omega) hi (by omega),y6,zqs hk (zhp hk hs h hj h3 hi (show i+1+d<t.length by omega) (by omega)),hsq,y10,ya,y8,hw]
 ·intro n
  have e1:((i+1:Nat):Int)+(d:Int)=((i+1+d:Nat):Int):=by omega
  have hlt:((i+1+d:Nat):Int)<(t.length:Int):=by omega
  have hsq:decide (sqS s j t i (i+1+d)=sqS s j t (i+1+d) i)=false:=F.dn
  show z3k k (n+1) s (j:Int) (t.length:Int) (i:Int) (((i+1:Nat):Int)+(d:Int)) E=_
  rw [e1]
  simp only [z3k,hlt,y9,y7,zbi hk hs h hj h3 hi (show i+1+d<t.length by omega) (by omega),zbi hk hs h hj h3 (show i+1+d<t.length by omega) hi (by omega),y6,zqs hk (zhp hk hs h hj h3 hi (show i+1+d<t.length by omega) (by omega)),hsq,y2m]
theorem z1t4 {k:Nat} (hk:KK≤k) {s:She} (hs:smallSh s) (h:zz k s=true) {j i d:Nat} {t:List Int} (F:FirstW s j t i d):zgl k s=some ((j:Int),(i:Int),((i+1+d:Nat):Int)):=by
 have hK:=zf
 obtain ⟨hC,_,_⟩:=z1b hk h
 have hcl:=hC.len
 have hj:=F.hj
 have hjl:=(yo.1 hj).1
 have h4:=(hC.simp t (yl hj)).len4
 have h3:=F.h3
 have l1:∀ E:She→Int→Option (Int×Int×Int),z4g k k s (j:Int) (t.length:Int) 0 E=some ((j:Int),(i:Int),((i+1+d:Nat):Int)):=by
  intro E
  refine zhq (L:=fun n i=>z4g k n s (j:Int) (t.length:Int) i E) (b:=t.length) (i0:=i) (p:=z6r s j t) F.hi F.i0 ?_ ?_ (n:=k) (by omega)
  ·intro n i hi hp
   have hlt:(i:Int)<(t.length:Int):=by omega
   have hlt3:(2:Int)<(t.length:Int):=by omega
   have hw:=zd (i:=i) (by omega)
   have:=(zv3 hk hs h hj h3 hi (fun s_2 k_3 n_4 i_5=>z4g k n s_2 k_3 n_4 (z6 (i_5+1)) E)).1 hp
   simp only [z4g,hlt,hlt3,y9,y7,hw,this]
  ·intro n
   have hi:=F.hi
   have hlt:(i:Int)<(t.length:Int):=by omega
   have hlt3:(2:Int)<(t.length:Int):=by omega
   have hw:=zd (i:=i) (by omega)
   simp only [z4g,hlt,hlt3,y9,y7,hw,z1t3 hk hs h F]
 unfold zgl
 refine zhq (L:=fun n i=>z9k k n s i (some ((-1),0,0))) (b:=s.1.length) (i0:=j) (p:=z56 s) hjl F.j0 ?_ ?_ (n:=k) (by omega)
 ·intro n j hj hp
  have hlt:(j:Int)<(s.1.length:Int):=by omega
  have hw:=zd (i:=j) (by omega)
  have hg:s.1[j]?=some s.1[j]:=yh hj
  simp only [z9k,hlt,y9,y7,yg,yd,hg,y6,(z19z hk hs h hg _).1 hp,hw]
 ·intro n
  have hlt:(j:Int)<(s.1.length:Int):=by omega
  simp only [z9k,hlt,y9,y7,yg,yd,hj,y6,l1]
theorem z1t5 {k:Nat} (hk:KK≤k) {s:She} (hs:smallSh s) (h:zz k s=true) (ha:(List.range s.1.length).all (z56 s)=true):zgl k s=some ((-1:Int),0,0):=by
 have hK:=zf
 obtain ⟨hC,_,_⟩:=z1b hk h
 have hcl:=hC.len
 unfold zgl
 refine (zbh (L:=fun n i=>z9k k n s i (some ((-1),0,0))) (b:=s.1.length) (p:=z56 s) (e:=some ((-1:Int),(0:Int),(0:Int))) (Q:=fun _=>True) ?_ (fun _ _ _ _=>trivial) ?_ (n:=k) (by omega)).1 ha
 ·intro n j hj hp
  have hlt:(j:Int)<(s.1.length:Int):=by omega
  have hw:=zd (i:=j) (by omega)
  have hg:s.1[j]?=some s.1[j]:=yh hj
  simp only [z9k,hlt,y9,y7,yg,yd,hg,y6,(z19z hk hs h hg _).1 hp,hw]
 ·intro n
  simp only [z9k,yp,yf,ya,y8]
theorem z1t6 {s:She} (hC:CxP s.1) {j:Nat} {t:List Int} (hj:s.1[j]?=some t) (h3:2<t.length) {i i2:Nat} (hi:i<t.length) (hi2:i2+1<t.length) :
  ∃ c:Nat,(zg s.1 t).length=t.length∧(zg s.1 t)[i]?=some ((zg s.1 t).getD i 0)∧s.1[(zg s.1 t).getD i 0]?=some (zy t i)∧(zg s.1 (zy t i))[i2]?=some c∧s.1[c]?=some (zy (zy t i) i2):=by
 have hm:=yl hj
 have hfl:=z8k s.1 t
 rw [y4 (by omega)] at hfl
 have hF:(zg s.1 t)[i]?=some (z2s s.1 (zy t i)):=by
  unfold zg z23
  rw [y4 (by omega),yr,yr,y21 hi]; rfl
 have hmem:=hC.face t hm (by omega) i hi
 have hdl:=z8i hi
 have hF2:(zg s.1 (zy t i))[i2]?=some (z2s s.1 (zy (zy t i) i2)):=by
  unfold zg z23
  rw [y4 (by omega),yr,yr,y21 (by omega)]; rfl
 have hmem2:=hC.face (zy t i) hmem (by omega) i2 (by omega)
 have hg:(zg s.1 t).getD i 0=z2s s.1 (zy t i):=by rw [y15,hF]; rfl
 exact ⟨_,hfl,by rw [hg]; exact hF,by rw [hg]; exact zdt hmem,hF2,zdt hmem2⟩
theorem z1a9 {k:Nat} (hk:KK≤k) {s:She} (hs:smallSh s) (h:zz k s=true):∀ (j:Nat) (t:List Int),s.1[j]?=some t→2<t.length→∀ E:List (List Int)→Int→Int→She→Option (Int×Int×Bool),z56 s j=true→z6a k k t (j:Int) s.1 (s.1.length:Int) (j:Int) (t.length:Int) 0 ((zg s.1 t).map fun i:Nat=>(i:Int)) s E=E s.1 (s.1.length:Int) (j:Int) s:=by
 have hK:=zf
 obtain ⟨hC,_,_⟩:=z1b hk h
 intro j t hj h3 E hc
 have h4:=(hC.simp t (yl hj)).len4
 unfold z56 at hc
 rw [hj] at hc
 simp only at hc
 rw [y4 h3] at hc
 refine (zbh (L:=fun n i=>z6a k n t (j:Int) s.1 (s.1.length:Int) (j:Int) (t.length:Int) i ((zg s.1 t).map fun i:Nat=>(i:Int)) s E) (b:=t.length) (p:=z6r s j t) (e:=E s.1 (s.1.length:Int) (j:Int) s) (Q:=fun _=>True) ?_ (fun _ _ _ _=>trivial) ?_ (n:=k) (by omega)).1 hc
 ·intro n i hi hp
  have hlt:(i:Int)<(t.length:Int):=by omega
  have hw:=zd (i:=i) (by omega)
  have:=(z1a0 hk hs h hj h3 hi s.1 (s.1.length:Int) (j:Int) (t.length:Int) (i:Int) (fun t_4 simplex_5 x_6 x_7 x_8 x_9 x_10 q_11 v_12=>z6a k n t_4 simplex_5 x_6 x_7 x_8 x_9 (z6 (x_10+1)) q_11 v_12 E)).1 hp
  simp only [z6a,hlt,y9,y7,hw,this]
 ·intro n
  simp only [z6a,yp,yf,ya,y8]
theorem z1t7 {k:Nat} (hk:KK≤k) {s:She} (hs:smallSh s) (h:zz k s=true) {j i d:Nat} {t:List Int} (F:FirstW s j t i d):∃ c:Nat,zfl k s=some ((j:Int),(c:Int),true)∧s.1[c]?=some (zy (zy t i) (i+d)):=by
 have hK:=zf
 obtain ⟨hC,_,_⟩:=z1b hk h
 have hcl:=hC.len
 have hj:=F.hj
 have hjl:=(yo.1 hj).1
 have h4:=(hC.simp t (yl hj)).len4
 have h3:=F.h3
 have hi:=F.hi
 have hdd:=F.hd
 obtain ⟨c,f1,f2,f3,f4,f5⟩:=z1t6 hC hj h3 hi (i2:=i+d) (by omega)
 refine ⟨c,?_,f5⟩
 have hF:∀ i,i<t.length→i<(zg s.1 t).length∧((zg s.1 t).map fun i:Nat=>(i:Int))[i]?=some (((zg s.1 t).getD i 0:Nat):Int):=fun i hi=>by
  obtain ⟨f1,f2,_⟩:=zkb hC hj h3 hi
  exact ⟨by omega,by rw [yr,f2]; rfl⟩
 have l2:∀ (x15:List (List Int)) (x16 x17 x31 x32:Int) (E:List Int→Int→List (List Int)→Int→Int→Int→Int→List Int→She→Option (Int×Int×Bool)),z33 k k t (j:Int) (i:Int) ((i+1:Nat):Int) x15 x16 x17 x31 x32 ((zg s.1 t).map fun i:Nat=>(i:Int)) s E=some ((j:Int),(c:Int),true):=by
  intro x15 x16 x17 x31 x32 E
  have step:∀ n d,d<t.length-(i+1)→z33 k (n+1) t (j:Int) (i:Int) ((i+1+d:Nat):Int) x15 x16 x17 x31 x32 ((zg s.1 t).map fun i:Nat=>(i:Int)) s E=(if (!decide (sqS s j t i (i+1+d)=sqS s j t (i+1+d) i))=true then (z9p k s.1 (((zg s.1 t).getD i 0:Nat):Int)).bind fun r_15=>(if 0≤((i+1+d-1:Nat):Int)∧(((i+1+d-1:Nat):Int)).toNat<List.length r_15 then (r_15[(((i+1+d-1:Nat):Int)).toNat]?).bind fun y_16=>some ((j:Int),y_16,true) else none) else z33 k n t (j:Int) (i:Int) ((i+1+d+1:Nat):Int) x15 x16 x17 x31 x32 ((zg s.1 t).map fun i:Nat=>(i:Int)) s E):=by
   intro n d hd
   have hi2:i+1+d<t.length:=by omega
   have hlt:((i+1+d:Nat):Int)<(t.length:Int):=by omega
   have hw:=zd (i:=i+1+d) (by omega)
   have hw1:z6 (((i+1+d:Nat):Int)-1)=((i+1+d-1:Nat):Int):=by rw [ze (by omega) (by omega)]; omega
   obtain ⟨a1,a2,a3⟩:=zqr hk hs h hj h3 hi hi2 (by omega)
   obtain ⟨b1,b2,b3⟩:=zqr hk hs h hj h3 hi2 hi (by omega)
   rw [y4 (by omega)] at a2 a3
   rw [y5 (by omega)] at b2 b3
   obtain ⟨g1,g2⟩:=hF i hi
   obtain ⟨g3,g4⟩:=hF (i+1+d) hi2
   simp only [z33,hlt,y9,y7,a1,y6,ym,yg,yd,g1,yw,g2,hw1,a2,a3,b1,g3,g4,b2,b3,z19w hk (zhp hk hs h hj h3 hi hi2 (by omega)),hw]
  have key:=zhq (L:=fun n z=>z33 k n t (j:Int) (i:Int) (((i+1:Nat):Int)+z) x15 x16 x17 x31 x32 ((zg s.1 t).map fun i:Nat=>(i:Int)) s E) (b:=t.length-(i+1)) (i0:=d) (p:=fun d=>zdw s j t i (i+1+d)) (e:=some ((j:Int),(c:Int),true)) (by omega) F.d0 ?_ ?_ (n:=k) (by omega)
  ·rw [y58] at key
   exact key
  ·intro n d hd hp
   have e1:((i+1:Nat):Int)+(d:Int)=((i+1+d:Nat):Int):=by omega
   have e2:((i+1:Nat):Int)+((d+1:Nat):Int)=((i+1+d+1:Nat):Int):=by omega
   have hp':decide (sqS s j t i (i+1+d)=sqS s j t (i+1+d) i)=true:=hp
   show z33 k (n+1) t (j:Int) (i:Int) (((i+1:Nat):Int)+(d:Int)) x15 x16 x17 x31 x32 ((zg s.1 t).map fun i:Nat=>(i:Int)) s E=z33 k n t (j:Int) (i:Int) (((i+1:Nat):Int)+((d+1:Nat):Int)) x15 x16 x17 x31 x32 ((zg s.1 t).map fun i:Nat=>(i:Int)) s E
   rw [e1,e2,step n d hd,y5 (by rw [hp']; simp)]
  ·intro n
   have e1:((i+1:Nat):Int)+(d:Int)=((i+1+d:Nat):Int):=by omega
   have hp':decide (sqS s j t i (i+1+d)=sqS s j t (i+1+d) i)=false:=F.dn
   have hlen:=(yo.1 f4).1
   have hgf:((zg s.1 (zy t i)).map fun i:Nat=>(i:Int))[i+d]?=some (c:Int):=by rw [yr,f4]; rfl
   show z33 k (n+1) t (j:Int) (i:Int) (((i+1:Nat):Int)+(d:Int)) x15 x16 x17 x31 x32 ((zg s.1 t).map fun i:Nat=>(i:Int)) s E=_
   rw [e1,step n d (by omega),y4 (by rw [hp']; rfl),zbe hk hC f3,show i+1+d-1=i+d by omega]
   simp only [y6,ym,yg,yd,hlen,yw,y7,hgf]
 have l1:∀ E:List (List Int)→Int→Int→She→Option (Int×Int×Bool),z6a k k t (j:Int) s.1 (s.1.length:Int) (j:Int) (t.length:Int) 0 ((zg s.1 t).map fun i:Nat=>(i:Int)) s E=some ((j:Int),(c:Int),true):=by
  intro E
  refine zhq (L:=fun n i=>z6a k n t (j:Int) s.1 (s.1.length:Int) (j:Int) (t.length:Int) i ((zg s.1 t).map fun i:Nat=>(i:Int)) s E) (b:=t.length) (i0:=i) (p:=z6r s j t) F.hi F.i0 ?_ ?_ (n:=k) (by omega)
  ·intro n i hi hp
   have hlt:(i:Int)<(t.length:Int):=by omega
   have hw:=zd (i:=i) (by omega)
   have:=(z1a0 hk hs h hj h3 hi s.1 (s.1.length:Int) (j:Int) (t.length:Int) (i:Int) (fun t_4 simplex_5 x_6 x_7 x_8 x_9 x_10 q_11 v_12=>z6a k n t_4 simplex_5 x_6 x_7 x_8 x_9 (z6 (x_10+1)) q_11 v_12 E)).1 hp
   simp only [z6a,hlt,y9,y7,hw,this]
  ·intro n
   have hlt:(i:Int)<(t.length:Int):=by omega
   have hw:=zd (i:=i) (by omega)
   simp only [z6a,hlt,y9,y7,hw,l2]
 have inner:=z1a9 hk hs h
 unfold zfl
 refine zhq (L:=fun n i=>z8d k n s.1 (s.1.length:Int) i s (some (0,0,false))) (b:=s.1.length) (i0:=j) (p:=z56 s) hjl F.j0 ?_ ?_ (n:=k) (by omega)
 ·intro n j hj hp
  have hlt:(j:Int)<(s.1.length:Int):=by omega
  have hw:=zd (i:=j) (by omega)
  have hg:s.1[j]?=some s.1[j]:=yh hj
  simp only [z8d,hlt,y9,y7,yg,yd,hg,y6,hw,zbe hk hC hg]
  by_cases h3:2<(s.1[j]).length
  ·rw [yb (by omega),y5 (by simp),inner j _ hg h3 _ hp,hw]
  ·rw [yc (by omega),y4 rfl]
 ·intro n
  have hlt:(j:Int)<(s.1.length:Int):=by omega
  simp only [z8d,hlt,y9,y7,yg,yd,hj,y6,zbe hk hC hj]
  rw [yb (by omega),y5 (by simp),l1]
theorem z1t8 {k:Nat} (hk:KK≤k) {s:She} (hs:smallSh s) (h:zz k s=true) (ha:(List.range s.1.length).all (z56 s)=true):zfl k s=some ((0:Int),0,false):=by
 have hK:=zf
 obtain ⟨hC,_,_⟩:=z1b hk h
 have hcl:=hC.len
 have inner:=z1a9 hk hs h
 unfold zfl
 refine (zbh (L:=fun n i=>z8d k n s.1 (s.1.length:Int) i s (some (0,0,false))) (b:=s.1.length) (p:=z56 s) (e:=some ((0:Int),(0:Int),false)) (Q:=fun _=>True) ?_ (fun _ _ _ _=>trivial) ?_ (n:=k) (by omega)).1 ha
 ·intro n j hj hp
  have hlt:(j:Int)<(s.1.length:Int):=by omega
  have hw:=zd (i:=j) (by omega)
  have hg:s.1[j]?=some s.1[j]:=yh hj
  simp only [z8d,hlt,y9,y7,yg,yd,hg,y6,hw,zbe hk hC hg]
  by_cases h3:2<(s.1[j]).length
  ·rw [yb (by omega),y5 (by simp),inner j _ hg h3 _ hp,hw]
  ·rw [yc (by omega),y4 rfl]
 ·intro n
  simp only [z8d,yp,yf,ya,y8]
abbrev Edg:=Int×Int×Int
def zdy (a b:Edg):Bool:=decide (a.1<b.1∨(a.1=b.1∧a.2.1<b.2.1))
def zhr (l:List Edg) (i:Nat) (e:Edg):Bool:=if 0<i then (match l[i-1]? with | some z=>zdy z e | none=>false) else true
theorem z1aa (a b:Edg):decide (0≤(if cI a.1 b.1=0 then cI a.2.1 b.2.1 else cI a.1 b.1))=!zdy a b:=by
 unfold zdy cI
 rw [← decide_not]
 refine decide_eq_decide.2 ?_
 by_cases h1:a.1<b.1
 ·simp [h1]
 ·by_cases h2:b.1<a.1
  ·have:¬ a.1=b.1:=by omega
   simp [h1,h2,this]
  ·have e:a.1=b.1:=by omega
   by_cases h3:a.2.1<b.2.1
   ·simp [e,h3]
   ·by_cases h4:b.2.1<a.2.1 <;> simp [e,h3,h4]
abbrev Net:=Int×Int×Int×List Edg
def z8l (n:Net) (i:Nat):Bool:=match n.2.2.2[i]? with
 | some a=>decide (0≤a.1∧a.1≤z6 (n.1-1))&&(decide (0≤a.2.1∧a.2.1≤z6 (n.1-1))&&(!decide (a.1=a.2.1)&&(decide (0≤a.2.2∧a.2.2≤1000000)&&zhr n.2.2.2 i a)))
 | none=>false
def z2t (n:Net):Bool:=decide (2≤n.1∧n.1≤12)&&(decide (0≤n.2.1∧n.2.1≤z6 (n.1-1))&&(decide (0≤n.2.2.1∧n.2.2.1≤z6 (n.1-1))&&(!decide (n.2.1=n.2.2.1)&&((List.range n.2.2.2.length).all (z8l n)&&decide (n.2.2.2.length≤24)))))
theorem z1t9 {k:Nat} (hk:KK≤k) {n:Net} (hn:n.2.2.2.length≤1048576):zoc k n=some (z2t n):=by
 have hK:=zf
 have hl:z9i k k n 0 (fun n_11=>some (decide ((List.length n_11.2.2.2:Int)≤24)))=if (List.range n.2.2.2.length).all (z8l n)=true then some (decide ((n.2.2.2.length:Int)≤24)) else some false:=by
  refine z4f (L:=fun m i=>z9i k m n i (fun n_11=>some (decide ((List.length n_11.2.2.2:Int)≤24)))) (b:=n.2.2.2.length) (p:=z8l n) (r:=some false) ?_ ?_ (n:=k) (by omega)
  ·intro m i hi
   have hlt:(i:Int)<(n.2.2.2.length:Int):=by omega
   have hw:=zd (i:=i) (by omega)
   have hg:n.2.2.2[i]?=some n.2.2.2[i]:=yh hi
   simp only [z9i,hlt,y9,y7,yg,yd,hg,y6,hw,z7g,z8l,zhr]
   generalize n.2.2.2[i]=a
   by_cases c1:0≤a.1∧a.1≤z6 (n.1-1)
   case neg=>simp [c1]
   by_cases c2:0≤a.2.1∧a.2.1≤z6 (n.1-1)
   case neg=>simp [c1,c2]
   by_cases c3:a.1=a.2.1
   ·simp only [c3,y9] at *; simp [c2]
   by_cases c4:0≤a.2.2∧a.2.2≤1000000
   case neg=>simp [c1,c2,c3,c4]
   rw [yc c1,yc c2,yb c3,yc c4]
   simp only [y10,y2m,ya,y8,y1i]
   by_cases h0:0<i
   ·have h0':(0:Int)<(i:Int):=by omega
    have hw1:z6 ((i:Int)-1)=((i-1:Nat):Int):=by rw [ze (by omega) (by omega)]; omega
    have hg1:n.2.2.2[i-1]?=some n.2.2.2[i-1]:=yh (by omega)
    simp only [h0',h0,y9,y7,hw1,yg,yd,hg1,y6]
    generalize n.2.2.2[i-1]=t
    unfold zdy
    by_cases d1:a.1<t.1
    ·have:¬ (t.1<a.1∨t.1=a.1∧t.2.1<a.2.1):=by omega
     rw [yc d1,y4 rfl,yb this,y5 (by simp)]
    ·rw [yb d1,y5 (by simp)]
     by_cases d2:t.1=a.1
     ·rw [yc d2,y4 rfl]
      by_cases d3:a.2.1≤t.2.1
      ·have:¬ (t.1<a.1∨t.1=a.1∧t.2.1<a.2.1):=by omega
       rw [yc d3,y4 rfl,yb this,y5 (by simp)]
      ·have:(t.1<a.1∨t.1=a.1∧t.2.1<a.2.1):=by omega
       rw [yb d3,y5 (by simp),yc this,y4 rfl]
     ·have:(t.1<a.1∨t.1=a.1∧t.2.1<a.2.1):=by omega
      rw [yb d2,y5 (by simp),yc this,y4 rfl]
   ·have h0':¬ (0:Int)<(i:Int):=by omega
    simp [h0,h0']
  ·intro m
   simp only [z9i,yp,yf,ya,y8]
 have e2:decide ((n.2.2.2.length:Int)≤24)=decide (n.2.2.2.length≤24):=decide_eq_decide.2 (by omega)
 unfold zoc z2t
 rw [hl,e2]
 simp only [z7g,y6]
 by_cases c1:2≤n.1∧n.1≤12
 case neg=>simp [c1]
 by_cases c2:0≤n.2.1∧n.2.1≤z6 (n.1-1)
 case neg=>simp [c1,c2]
 by_cases c3:0≤n.2.2.1∧n.2.2.1≤z6 (n.1-1)
 case neg=>simp [c1,c2,c3]
 rw [yc c1,yc c2,yc c3]
 cases decide (n.2.1=n.2.2.1) <;> cases (List.range n.2.2.2.length).all (z8l n) <;> simp
end Go.Proofs.YtiodkblajaenbaaGreatDoor.Ev
