/- Plain laws of the printed functions. No conditions but those in each statement. -/
import Derived.Test.YtfinlkoplekgkaaGreatDoorEv6
import Derived.Test.YtfinlkoplekgkaaGreatDoorG11
set_option linter.unusedVariables false
set_option linter.unusedSimpArgs false
namespace Go.Proofs.YtfinlkoplekgkaaGreatDoor.Ev
open Go.RowKit
theorem z6l (n a b:Int):z47 n a b=some (decide (a≤n∧n≤b)):=by
 unfold z47
 by_cases h:a≤n <;> simp [h]
theorem z7e (n a b:Int):z30 n a b=some (decide (a≤n∧n≤b)):=by
 unfold z30
 by_cases h:a≤n <;> simp [h]
theorem z16s {k:Nat} {p:Int} (hp:p≤251):∀ (m d n:Nat),17-d≤m→2≤d→m<n→d≤17→∃ b,z98 k n p (d:Int) (some true)=some b∧z9h k n p (d:Int) (some true)=some b
 | m,d,0,_,_,h,_=>by omega
 | 0,d,n+1,h,h2,_,h4=>by
  have hd:d=17:=by omega
  subst hd
  have w1:z6 (((17:Nat):Int)*((17:Nat):Int))=289:=by rw [zf (by omega) (by omega)]; rfl
  have hc:¬ ((289:Int)≤p):=by omega
  refine ⟨true,?_,?_⟩
  ·unfold z98; rw [w1,decide_eq_false hc,if_neg (by simp)]
  ·unfold z9h; rw [w1,decide_eq_false hc,if_neg (by simp)]
 | m+1,d,n+1,h,h2,hn,h4=>by
  by_cases hc:z6 ((d:Int)*(d:Int))≤p
  ·have hd0:¬ ((d:Int)=0):=by omega
   have hw:=zd (i:=d) (by omega)
   by_cases hm:Int.tmod p (d:Int)=0
   ·refine ⟨false,?_,?_⟩
    ·unfold z98; rw [decide_eq_true hc,if_pos rfl,if_neg hd0,decide_eq_true hm,if_pos rfl]
    ·unfold z9h; rw [decide_eq_true hc,if_pos rfl,if_neg hd0,decide_eq_true hm,if_pos rfl]
   ·by_cases h17:d=17
    ·subst h17
     have w1:z6 (((17:Nat):Int)*((17:Nat):Int))=289:=by rw [zf (by omega) (by omega)]; rfl
     rw [w1] at hc; omega
    ·obtain ⟨b,h5,h6⟩:=z16s (k:=k) hp m (d+1) n (by omega) (by omega) (by omega) (by omega)
     refine ⟨b,?_,?_⟩
     ·rw [← h5]; conv=>lhs; unfold z98
      rw [decide_eq_true hc,if_pos rfl,if_neg hd0,decide_eq_false hm,if_neg (by simp),hw]
     ·rw [← h6]; conv=>lhs; unfold z9h
      rw [decide_eq_true hc,if_pos rfl,if_neg hd0,decide_eq_false hm,if_neg (by simp),hw]
  ·refine ⟨true,?_,?_⟩
   ·unfold z98; rw [decide_eq_false hc,if_neg (by simp)]
   ·unfold z9h; rw [decide_eq_false hc,if_neg (by simp)]
theorem z16t {k:Nat} (hk:KK≤k) (p:Int):∃ b,zce k p=some b∧zgh k p=some b∧(b=true→2≤p∧p≤251):=by
 have hK:=zg
 unfold zce zs7 zgh
 rw [z7e,z6l]
 by_cases h:2≤p∧p≤251
 ·obtain ⟨b,h1,h2⟩:=z16s (k:=k) (p:=p) h.2 15 2 k (by omega) (by omega) (by omega) (by omega)
  have h1:z98 k k p 2 (some true)=some b:=h1
  have h2:z9h k k p 2 (some true)=some b:=h2
  refine ⟨b,?_,?_,fun _=>h⟩
  ·simp [h,h1]
  ·simp [h,h2]
 ·exact ⟨false,by simp [h],by simp [h],fun h=>by cases h⟩
theorem zde {α:Type} (p:α→Bool) (xs:List α):decide (0≤zih p xs)=xs.any p:=by
 unfold zih
 cases h:xs.findIdx? p with
 | some i =>
  obtain ⟨hlt,hp,_⟩:=List.findIdx?_eq_some_iff_getElem.1 h
  have:xs.any p=true:=List.any_eq_true.2 ⟨_,List.getElem_mem hlt,hp⟩
  rw [this]; simp
 | none =>
  rw [List.findIdx?_eq_none_iff] at h
  have:xs.any p=false:=List.any_eq_false.2 fun x hx=>by rw [h x hx]; simp
  rw [this]; simp
abbrev Mat:=Int×Int×Int×List Int
theorem zjc {k:Nat} (hk:KK≤k) {v:List Int} (hv:v.length≤1048576) (n:Int) {p:Int} (hp : -1000000≤p∧p≤1000000):z7b k v n p=some (v.all (fun x=>decide (0≤x∧x≤p-1))&&decide ((v.length:Int)=n)):=by
 have hK:=zg
 have hw1:z6 (p-1)=p-1:=zf (by omega) (by omega)
 unfold z7b
 have:=zls (L:=fun m i=>zfq k m v n p i (fun v_3 n_4=>some (decide ((List.length v_3:Int)=n_4)))) (p:=fun x=>decide (0≤x∧x≤p-1)) (r:=some false) (e:=some (decide ((v.length:Int)=n))) v ?_ ?_ (n:=k) (by omega)
 ·refine this.trans ?_
  cases v.all (fun x=>decide (0≤x∧x≤p-1)) <;> simp
 ·intro m i x hx hlt
  have hw:=zd (i:=i) (by omega)
  simp only [zfq,hlt,decide_true,if_true,Int.natCast_nonneg,Int.toNat_natCast,hx,Option.bind_some,z7e,hw1,hw]
  by_cases c:0≤x∧x≤p-1 <;> simp [c]
 ·intro m
  simp only [zfq,Int.lt_irrefl,decide_false,Bool.false_eq_true,if_false]
theorem ztn {k:Nat} (hk:KK≤k) {v:List Int} (hv:v.length≤1048576) {p:Int} (hp : -1000000≤p∧p≤1000000):zfj k v p=some (v.all (fun x=>decide (0≤x∧x≤p-1))):=by
 have hK:=zg
 have hw1:z6 (p-1)=p-1:=zf (by omega) (by omega)
 unfold zfj zt2 zt1
 rw [zap (L:=fun n i=>zgn k n v p (v.length:Int) i (some (-1))) (p:=fun x=>!decide (0≤x∧x≤p-1)) v ?_ ?_ (n:=k) (by omega)]
 ·simp only [Option.bind_some,zde]
  congr 1
  rw [← List.not_all_eq_any_not,Bool.not_not]
 ·intro n i x hi hlt
  have hw:=zd (i:=i) (by omega)
  simp only [zgn,zt0,z68,z6l,hw1,hlt,decide_true,if_true,Int.natCast_nonneg,Int.toNat_natCast,hi,Option.bind_some,hw]
 ·intro n
  simp [zgn]
structure MatP (m:Mat) (R C:Nat):Prop where
 rows:m.2.1=(R:Int)
 cols:m.2.2.1=(C:Int)
 r32:R≤32
 c32:C≤32
 len:m.2.2.2.length=R*C
 prime:2≤m.1∧m.1≤251
 cells:∀ x∈m.2.2.2,0≤x∧x≤250
 lt:∀ x∈m.2.2.2,x<m.1
theorem z1oq {k:Nat} (hk:KK≤k) {m:Mat} (hv:m.2.2.2.length≤1048576):∃ b,zfw k m=some b∧zj9 k m=some b∧(b=true→∃ R C,MatP m R C):=by
 obtain ⟨b,h1,h2,h3⟩:=z16t hk m.1
 unfold zfw zj9 zov z88
 rw [h1,h2]
 cases b
 ·exact ⟨false,by simp,by simp,fun h=>by cases h⟩
 ·have hp:=h3 rfl
  simp only [Option.bind_some,if_true,z7e,z6l,zjc hk hv _ (show -1000000≤m.1∧m.1≤1000000 by omega),ztn hk hv (show -1000000≤m.1∧m.1≤1000000 by omega)]
  by_cases c1:0≤m.2.1∧m.2.1≤32
  ·by_cases c2:0≤m.2.2.1∧m.2.2.1≤32
   ·rw [decide_eq_true c1,decide_eq_true c2,if_pos rfl,if_pos rfl,if_pos rfl,if_pos rfl]
    obtain ⟨R,hR⟩:=Int.eq_ofNat_of_zero_le c1.1
    obtain ⟨C,hC⟩:=Int.eq_ofNat_of_zero_le c2.1
    have hRC:R*C≤32*32:=Nat.mul_le_mul (by omega) (by omega)
    have hw:z6 (m.2.1*m.2.2.1)=((R*C:Nat):Int):=by
     rw [hR,hC,← Int.natCast_mul]
     exact zf (by omega) (by omega)
    rw [hw]
    refine ⟨m.2.2.2.all (fun x=>decide (0≤x∧x≤m.1-1))&&decide ((m.2.2.2.length:Int)=((R*C:Nat):Int)),rfl,?_,fun h=>?_⟩
    ·by_cases c3:(m.2.2.2.length:Int)=((R*C:Nat):Int)
     ·rw [decide_eq_true c3,if_pos rfl,Bool.and_true]
     ·rw [decide_eq_false c3,if_neg (by simp),Bool.and_false]
    ·simp only [Bool.and_eq_true,List.all_eq_true,decide_eq_true_eq] at h
     exact ⟨R,C,hR,hC,by omega,by omega,by omega,hp,fun x hx=>by have:=h.1 x hx; omega,fun x hx=>by have:=h.1 x hx; omega⟩
   ·exact ⟨false,by simp [c1,c2],by simp [c1,c2],fun h=>by cases h⟩
  ·exact ⟨false,by simp [c1],by simp [c1],fun h=>by cases h⟩
def z4x (cells:List Int) (C r:Nat):List Int:=(cells.drop (r*C)).take C
theorem zh1 {cells:List Int} {R C r:Nat} (hl:cells.length=R*C) (hr:r<R):(z4x cells C r).length=C:=by
 unfold z4x
 rw [List.length_take,List.length_drop,hl]
 have:(r+1)*C≤R*C:=Nat.mul_le_mul_right _ hr
 rw [Nat.succ_mul] at this
 omega
theorem z16u {cells:List Int} {C r c:Nat} (hc:c<C):(z4x cells C r)[c]?=cells[r*C+c]?:=by
 unfold z4x
 rw [List.getElem?_take_of_lt hc,List.getElem?_drop]
theorem z16v {a:List Int} (ha:a.length≤1048576):zin a=some a:=by
 have hL:=z1p
 unfold zin
 have h:(([]:List Unit).length+a.length)*8≤LIM:=by simp only [List.length_nil]; omega
 rw [if_pos h]
 cases a with
 | nil=>simp [zhf]
 | cons x l=>simp
theorem z16w {k:Nat} (hk:KK≤k) {m:Mat} {R C:Nat} (h:MatP m R C):zil k m=some ((List.range R).map (z4x m.2.2.2 C)):=by
 have hK:=zg
 have hLI:=z1p
 have h32:=h.c32
 have hr32:=h.r32
 unfold zil
 have:=z29 (α:=Nat) (A:=List (List Int)) (L:=fun n i q=>zgq k n m.2.1 i q m (fun q_4=>some q_4)) (I:=fun pre q=>q=pre.map (z4x m.2.2.2 C)) (G:=fun _ _=>some ((List.range R).map (z4x m.2.2.2 C))) (List.range R) ?_ ?_ k (by rw [List.length_range]; omega) [] rfl
 ·exact this
 ·intro n pre x post q hx hq ih hg hlt
  rw [List.length_range] at hlt
  have hr:pre.length<R:=by omega
  have hxe:x=pre.length:=by rw [List.getElem?_range hr] at hg; simpa using hg.symm
  have hw:=zd (i:=pre.length) (by omega)
  have hlt':(pre.length:Int)<m.2.1:=by rw [h.rows]; omega
  have h1:(pre.length+1)*C≤R*C:=Nat.mul_le_mul_right _ hr
  have h2:R*C≤32*32:=Nat.mul_le_mul hr32 h32
  have h3:(pre.length+1)*C=pre.length*C+C:=Nat.succ_mul _ _
  have hm1:z6 ((pre.length:Int)*m.2.2.1)=((pre.length*C:Nat):Int):=by rw [h.cols,← Int.natCast_mul]; exact zf (by omega) (by omega)
  have hm2:z6 (((pre.length+1:Nat):Int)*m.2.2.1)=(((pre.length+1)*C:Nat):Int):=by rw [h.cols,← Int.natCast_mul]; exact zf (by omega) (by omega)
  have hrow:z8a m (pre.length:Int)=some (z4x m.2.2.2 C pre.length):=by
   unfold z8a
   rw [hm1,hw,hm2,if_pos ⟨by omega,by omega,by rw [h.len]; omega⟩,Int.toNat_natCast,Int.toNat_natCast,show (pre.length+1)*C-pre.length*C=C by omega]
   rfl
  have hrl:=zh1 h.len hr
  have hql:q.length=pre.length:=by rw [hq,List.length_map]
  have b1:(q.length+1)*24≤LIM:=by omega
  subst hxe
  simp only [zgq,hlt',decide_true,if_true,hrow,Option.bind_some,z16v (show (z4x m.2.2.2 C pre.length).length≤1048576 by omega),List.length_singleton,b1,hw]
  exact ih _ (by rw [hq]; simp)
 ·intro n q hq
  have:¬ ((List.range R).length:Int)<m.2.1:=by rw [h.rows,List.length_range]; omega
  subst hq
  simp only [zgq,this,decide_false,Bool.false_eq_true,if_false]
def z16 (C:Nat) (f:Nat→Nat→Int) (i:Nat):List Int:=(List.range C).map (f i)
def z1q (R C:Nat) (f:Nat→Nat→Int):List (List Int):=(List.range R).map (z16 C f)
def z10 (R C:Nat) (f:Nat→Nat→Int):List Int:=(List.range (R*C)).map fun (t:Nat)=>f (t / C) (t % C)
theorem zpi (C:Nat) (f:Nat→Nat→Int) (i:Nat):(z16 C f i).length=C:=by simp [z16]
theorem z8d (R C:Nat) (f:Nat→Nat→Int):(z1q R C f).length=R:=by simp [z1q]
theorem z4f (R C:Nat) (f:Nat→Nat→Int):(z10 R C f).length=R*C:=by simp [z10]
theorem zdf {C:Nat} (f:Nat→Nat→Int) (i:Nat) {j:Nat} (h:j<C):(z16 C f i)[j]?=some (f i j):=by unfold z16; rw [List.getElem?_map,List.getElem?_range h]; rfl
theorem z6m {R C:Nat} (f:Nat→Nat→Int) {i:Nat} (h:i<R):(z1q R C f)[i]?=some (z16 C f i):=by unfold z1q; rw [List.getElem?_map,List.getElem?_range h]; rfl
theorem ixl {R C i j:Nat} (hi:i<R) (hj:j<C):i*C+j<R*C:=by
 have:(i+1)*C≤R*C:=Nat.mul_le_mul_right _ hi
 rw [Nat.succ_mul] at this
 omega
theorem dm {C i j:Nat} (hj:j<C):(i*C+j) / C=i∧(i*C+j) % C=j:=by
 constructor
 ·rw [Nat.mul_comm,Nat.mul_add_div (by omega),Nat.div_eq_of_lt hj,Nat.add_zero]
 ·rw [Nat.mul_comm,Nat.mul_add_mod,Nat.mod_eq_of_lt hj]
theorem z7f {R C:Nat} (f:Nat→Nat→Int) {i j:Nat} (hi:i<R) (hj:j<C):(z10 R C f)[i*C+j]?=some (f i j):=by
 unfold z10
 rw [List.getElem?_map,List.getElem?_range (ixl hi hj)]
 have:=dm (i:=i) hj
 rw [Option.map_some,this.1,this.2]
theorem zjd {C:Nat} {f g:Nat→Nat→Int} {i i':Nat} (h:∀ j,j<C→f i j=g i' j):z16 C f i=z16 C g i':=List.map_congr_left fun j hj=>h j (List.mem_range.1 hj)
theorem zto {R C:Nat} {f g:Nat→Nat→Int} (h:∀ i j,i<R→j<C→f i j=g i j):z1q R C f=z1q R C g:=List.map_congr_left fun i hi=>zjd fun j hj=>h i j (List.mem_range.1 hi) hj
theorem zdg {R C:Nat} {f g:Nat→Nat→Int} (h:∀ i j,i<R→j<C→f i j=g i j):z10 R C f=z10 R C g:=List.map_congr_left fun t ht=>by
 have ht:=List.mem_range.1 ht
 have hC:0<C:=by
  rcases Nat.eq_zero_or_pos C with h0 | h0
  ·subst h0; simp at ht
  ·exact h0
 exact h _ _ (Nat.div_lt_of_lt_mul (by rw [Nat.mul_comm]; exact ht)) (Nat.mod_lt _ hC)
theorem zpj {R C:Nat} (f g:Nat→Nat→Int) {i:Nat} (i':Nat) (hi:i<R):(z1q R C f).set i (z16 C g i')=z1q R C (fun x j=>if x=i then g i' j else f x j):=by
 refine List.ext_getElem? fun x=>?_
 rw [List.getElem?_set,z8d]
 by_cases hx:x<R
 ·rw [z6m _ hx,z6m _ hx]
  by_cases e:i=x
  ·subst e
   rw [if_pos rfl,if_pos hx]
   congr 1
   exact zjd fun j _=>by rw [if_pos rfl]
  ·rw [if_neg e]
   congr 1
   exact zjd fun j _=>by rw [if_neg (fun h=>e h.symm)]
 ·rw [List.getElem?_eq_none (by rw [z8d]; omega),List.getElem?_eq_none (by rw [z8d]; omega),if_neg (by omega)]
def z8e (f:Nat→Nat→Int) (i j:Nat) (v:Int):Nat→Nat→Int:=fun x y=>if x=i∧y=j then v else f x y
theorem zpk {R C:Nat} (f:Nat→Nat→Int) {i j:Nat} (v:Int) (hi:i<R) (hj:j<C):(z10 R C f).set (i*C+j) v=z10 R C (z8e f i j v):=by
 refine List.ext_getElem? fun t=>?_
 rw [List.getElem?_set,z4f]
 by_cases ht:t<R*C
 ·unfold z10
  rw [List.getElem?_map,List.getElem?_map,List.getElem?_range ht]
  simp only [Option.map_some]
  by_cases e:i*C+j=t
  ·subst e
   have:=dm (i:=i) hj
   rw [if_pos rfl,if_pos ht,this.1,this.2]
   unfold z8e
   rw [if_pos ⟨rfl,rfl⟩]
  ·rw [if_neg e]
   unfold z8e
   rw [if_neg (fun h=>e (by rw [← h.1,← h.2,Nat.mul_comm]; exact Nat.div_add_mod t C))]
 ·rw [List.getElem?_eq_none (by rw [z4f]; omega),List.getElem?_eq_none (by rw [z4f]; omega),if_neg (by have:=ixl hi hj; omega)]
def z1k (f:Nat→Nat→Int) (c:Nat):Nat→Nat→Nat
 | 0,at_=>at_
 | d+1,at_=>if f at_ c=0 then z1k f c d (at_+1) else at_
theorem zpl (f:Nat→Nat→Int) (c:Nat):∀ d at_,at_≤z1k f c d at_∧z1k f c d at_≤at_+d
 | 0,at_=>⟨Nat.le_refl _,Nat.le_refl _⟩
 | d+1,at_=>by
  have:=zpl f c d (at_+1)
  unfold z1k
  split <;> omega
def swF (f:Nat→Nat→Int) (a b:Nat):Nat→Nat→Int:=fun i j=>if i=a then f b j else if i=b then f a j else f i j
def scF (f:Nat→Nat→Int) (p:Int) (a:Nat) (v:Int):Nat→Nat→Int:=fun i j=>if i=a then Int.tmod (v*f a j) p else f i j
def clF (f:Nat→Nat→Int) (p:Int) (t c n:Nat):Nat→Nat→Int:=fun i j=>if i<n∧i≠t∧f i c≠0 then Int.tmod (f i j+(p-f i c)*f t j) p else f i j
def BdF (p:Int) (f:Nat→Nat→Int):Prop:=∀ i j,0≤f i j∧f i j<p
theorem z16x {p:Int} (hp:2≤p) {x:Int} (hx:0≤x):0≤Int.tmod x p∧Int.tmod x p<p:=by
 rw [Int.tmod_eq_emod_of_nonneg hx]
 exact ⟨Int.emod_nonneg _ (by omega),Int.emod_lt_of_pos _ (by omega)⟩
theorem zje {p:Int} {f:Nat→Nat→Int} (h:BdF p f) (a b:Nat):BdF p (swF f a b):=fun i j=>by unfold swF; split; exact h _ _; split; exact h _ _; exact h _ _
theorem zjf {p:Int} (hp:2≤p) {f:Nat→Nat→Int} (h:BdF p f) (a:Nat) {v:Int} (hv:0≤v):BdF p (scF f p a v):=fun i j=>by
 unfold scF
 split
 ·exact z16x hp (Int.mul_nonneg hv (h a j).1)
 ·exact h i j
theorem z1or {p:Int} (hp:2≤p) {f:Nat→Nat→Int} (h:BdF p f) (t c n:Nat):BdF p (clF f p t c n):=fun i j=>by
 unfold clF
 split
 ·have h1:=h i j
  have h2:=h i c
  have h3:=h t j
  exact z16x hp (Int.add_nonneg h1.1 (Int.mul_nonneg (by omega) h3.1))
 ·exact h i j
theorem z16y {p:Int} {f:Nat→Nat→Int} (t c n j:Nat):clF f p t c n t j=f t j:=by unfold clF; rw [if_neg (fun h=>h.2.1 rfl)]
theorem ztp {p:Int} {f:Nat→Nat→Int} (t c n j:Nat):clF f p t c n n j=f n j:=by unfold clF; rw [if_neg (fun h=>Nat.lt_irrefl _ h.1)]
theorem zpm {p:Int} {f:Nat→Nat→Int} {t c n:Nat} (h:n=t∨f n c=0):clF f p t c (n+1)=clF f p t c n:=by
 funext i j
 unfold clF
 by_cases e:i<n∧i≠t∧f i c≠0
 ·rw [if_pos e,if_pos ⟨by omega,e.2⟩]
 ·rw [if_neg e,if_neg]
  rintro ⟨h1,h2,h3⟩
  have:i=n:=by
   rcases Nat.lt_or_ge i n with h4 | h4
   ·exact absurd ⟨h4,h2,h3⟩ e
   ·omega
  subst this
  rcases h with h | h
  ·exact h2 h
  ·exact h3 h
theorem z16z {p:Int} {f:Nat→Nat→Int} {t c n:Nat} (h1:n≠t) (h2:f n c≠0):(fun i j=>if i=n then Int.tmod (f n j+(p-f n c)*f t j) p else clF f p t c n i j)=clF f p t c (n+1):=by
 funext i j
 unfold clF
 by_cases e:i=n
 ·subst e; rw [if_pos rfl,if_pos ⟨by omega,h1,h2⟩]
 ·rw [if_neg e]
  by_cases e2:i<n∧i≠t∧f i c≠0
  ·rw [if_pos e2,if_pos ⟨by omega,e2.2⟩]
  ·rw [if_neg e2,if_neg (fun h=>e2 ⟨by omega,h.2⟩)]
theorem zb4 {S R:Type} {L:Nat→Int→S→R} {b:Nat} {st:Nat→S} {e:R} (h1:∀ n (i:Nat),i<b→L (n+1) (i:Int) (st i)=L n ((i+1:Nat):Int) (st (i+1))) (h2:∀ n,L (n+1) (b:Int) (st b)=e):∀ {n:Nat},b<n→L n 0 (st 0)=e:=by
 have key:∀ (d i n:Nat),i+d=b→d<n→L n (i:Int) (st i)=e:=by
  intro d
  induction d with
  | zero =>
   intro i n hi hn
   obtain ⟨n,rfl⟩:∃ m,n=m+1:=⟨n-1,by omega⟩
   have:i=b:=by omega
   subst this
   exact h2 n
  | succ d ih =>
   intro i n hi hn
   obtain ⟨n,rfl⟩:∃ m,n=m+1:=⟨n-1,by omega⟩
   rw [h1 n i (by omega)]
   exact ih (i+1) n (by omega) (by omega)
 intro n hn
 exact key b 0 n (by omega) hn
theorem z170 (x y p:Int):(x % p*y) % p=(x*y) % p:=by rw [Int.mul_emod,Int.emod_emod,← Int.mul_emod]
theorem z172 (x y p:Int):(x*(y % p)) % p=(x*y) % p:=by rw [Int.mul_emod,Int.emod_emod,← Int.mul_emod]
theorem z174 (x p:Int):∀ m:Nat,((x % p) ^ m) % p=(x ^ m) % p
 | 0=>by simp
 | m+1=>by rw [Int.pow_succ,Int.pow_succ,Int.mul_emod,z174 x p m,Int.emod_emod,← Int.mul_emod]
theorem zdh {x p:Int} (h:0≤x):Int.tmod x p=x % p:=Int.tmod_eq_emod_of_nonneg h
def z9j (p a:Int):Int:=(a ^ (p-2).toNat) % p
theorem z9k {p:Int} (hp:2≤p) (a:Int):0≤z9j p a∧z9j p a<p:=⟨Int.emod_nonneg _ (by omega),Int.emod_lt_of_pos _ (by omega)⟩
theorem zjg {a p:Int} (hp:2≤p∧p≤251) (h:0≤a∧a<p) {b:Int} (hb:0≤b∧b<p):0≤a*b∧a*b≤62500 :=
 ⟨Int.mul_nonneg h.1 hb.1,Int.le_trans (Int.mul_le_mul (show a≤250 by omega) (show b≤250 by omega) hb.1 (by omega)) (by omega)⟩
theorem z175 {k:Nat} (hk:KK≤k) {a p:Int} (hp:2≤p∧p≤251) (ha:0≤a∧a<p):zj2 k a p=some (z9j p a):=by
 have hK:=zg
 have key:∀ (d n:Nat) (out:Int),d<n→0≤out∧out<p→d≤251→zg7 k n a p out (d:Int) (fun out_1=>some out_1)=some ((out*a ^ d) % p):=by
  intro d
  induction d with
  | zero =>
   intro n out hn ho _
   obtain ⟨n,rfl⟩:∃ m,n=m+1:=⟨n-1,by omega⟩
   have:¬ (0:Int)<((0:Nat):Int):=by omega
   simp only [zg7,this,decide_false,Bool.false_eq_true,if_false]
   rw [show out*a ^ 0=out by simp,Int.emod_eq_of_lt ho.1 ho.2]
  | succ d ih =>
   intro n out hn ho hd
   obtain ⟨n,rfl⟩:∃ m,n=m+1:=⟨n-1,by omega⟩
   have h0:(0:Int)<((d+1:Nat):Int):=by omega
   have b:=zjg hp ho ha
   have hw:z6 (((d+1:Nat):Int)-1)=(d:Int):=by rw [zf (by omega) (by omega)]; omega
   simp only [zg7,h0,decide_true,if_true,hw]
   rw [if_neg (by omega),zf (by omega) (by omega),zdh b.1,ih n _ (by omega) ⟨Int.emod_nonneg _ (by omega),Int.emod_lt_of_pos _ (by omega)⟩ (by omega),z170,Int.pow_succ]
   congr 2
   rw [Int.mul_assoc,Int.mul_comm a]
 unfold zj2
 have h1:z6 (p-2)=((p-2).toNat:Int):=by rw [zf (by omega) (by omega)]; omega
 rw [h1,key _ k 1 (by omega) ⟨by omega,by omega⟩ (by omega)]
 unfold z9j
 rw [Int.one_mul]
theorem z176 {k:Nat} (hk:KK≤k) {a p:Int} (hp:2≤p∧p≤251) (ha:0≤a∧a<p):zik k a p=some (z9j p a):=by
 have hK:=zg
 have key:∀ (n:Nat) (f:Nat) (a out:Int),n<f→0≤a∧a<p→0≤out∧out<p→n≤251→zdd k f a (n:Int) p out (fun out_1=>some out_1)=some ((out*a ^ n) % p):=by
  intro n
  induction n using Nat.strongRecOn with
  | _ n ih =>
   intro f a out hf ha ho hn
   obtain ⟨f,rfl⟩:∃ m,f=m+1:=⟨f-1,by omega⟩
   rcases Nat.eq_zero_or_pos n with h0 | h0
   ·subst h0
    have:¬ (0:Int)<((0:Nat):Int):=by omega
    simp only [zdd,this,decide_false,Bool.false_eq_true,if_false]
    rw [show out*a ^ 0=out by simp,Int.emod_eq_of_lt ho.1 ho.2]
   ·have h1:(0:Int)<(n:Int):=by omega
    have b:=zjg hp ho ha
    have b2:=zjg hp ha ha
    have e1:Int.tmod (n:Int) 2=((n % 2:Nat):Int):=by rw [zdh (by omega)]; omega
    have e2:z6 (Int.tdiv (n:Int) 2)=((n / 2:Nat):Int):=by
     rw [Int.tdiv_eq_ediv_of_nonneg (by omega),zf (by omega) (by omega)]; omega
    have hpn:¬ p=0:=by omega
    have sqb:0≤a*a % p∧a*a % p<p:=⟨Int.emod_nonneg _ (by omega),Int.emod_lt_of_pos _ (by omega)⟩
    have sq:∀ z:Int,(z*(a*a % p) ^ (n / 2)) % p=(z*(a*a) ^ (n / 2)) % p:=fun z=>by
     rw [← z172,z174,z172]
    have pw:(a*a) ^ (n / 2)=a ^ (2*(n / 2)):=by rw [Int.pow_mul]; congr 1; rw [Int.pow_succ,Int.pow_succ,Int.pow_zero,Int.one_mul]
    simp only [zdd,h1,decide_true,if_true,e1,e2,hpn,if_false]
    rcases Nat.mod_two_eq_zero_or_one n with h2 | h2
    ·rw [h2,decide_eq_false (by omega),if_neg (by simp),zf (by omega) (by omega),zdh b2.1,ih (n / 2) (by omega) f _ _ (by omega) sqb ho (by omega),sq,pw,show 2*(n / 2)=n by omega]
    ·have ob:0≤out*a % p∧out*a % p<p:=⟨Int.emod_nonneg _ (by omega),Int.emod_lt_of_pos _ (by omega)⟩
     rw [h2,decide_eq_true (by omega),if_pos rfl,zf (by omega) (by omega),zf (by omega) (by omega),zdh b2.1,zdh b.1,ih (n / 2) (by omega) f _ _ (by omega) sqb ob (by omega),sq,z170,pw]
     congr 2
     rw [Int.mul_assoc]
     congr 1
     conv=>rhs; rw [show n=2*(n / 2)+1 by omega]
     rw [Int.pow_succ,Int.mul_comm]
 unfold zik ztm
 have h1:z6 (p-2)=((p-2).toNat:Int):=by rw [zf (by omega) (by omega)]; omega
 rw [h1,key _ k a 1 (by omega) ha ⟨by omega,by omega⟩ (by omega)]
 unfold z9j
 rw [Int.one_mul]
 rfl
theorem z9l {i C j:Nat} (hi:i≤64) (hC:C≤64) (hj:j≤64):z6 (z6 ((i:Int)*(C:Int))+(j:Int))=((i*C+j:Nat):Int):=by
 have:i*C≤64*64:=Nat.mul_le_mul hi hC
 rw [← Int.natCast_mul,zf (x:=((i*C:Nat):Int)) (by omega) (by omega),zf (by omega) (by omega)]
 omega
theorem z177 {k:Nat} (hk:KK≤k) {p v:Int} (hp:2≤p∧p≤251) (hv:0≤v∧v≤251) {C:Nat} (hC:C≤64) {g h:Nat→Int} (hg:∀ j,0≤g j∧g j<p) (hh:∀ j,0≤h j∧h j<p) :
  zaq k ((List.range C).map g) ((List.range C).map h) v p=some ((List.range C).map fun j=>Int.tmod (g j+v*h j) p):=by
 have hK:=zg
 have hL:=z1p
 unfold zaq
 rw [show (List.length ((List.range C).map g):Int)=(C:Int) by simp]
 refine zb4 (S:=List Int) (L:=fun n i q=>zh0 k n ((List.range C).map g) ((List.range C).map h) v p (C:Int) i q (fun q_4=>some q_4)) (b:=C) (st:=fun i=>(List.range i).map fun j=>Int.tmod (g j+v*h j) p) ?_ ?_ (n:=k) (by omega)
 ·intro n i hi
  have hlt:(i:Int)<(C:Int):=by omega
  have hw:=zd (i:=i) (by omega)
  have hgi:=hg i
  have hhi:=hh i
  have h1:v*h i≤251*250:=Int.mul_le_mul hv.2 (show h i≤250 by omega) hhi.1 (by omega)
  have h2:0≤v*h i:=Int.mul_nonneg hv.1 hhi.1
  have e1:z6 (v*h i)=v*h i:=zf (by omega) (by omega)
  have e2:z6 (g i+v*h i)=g i+v*h i:=zf (by omega) (by omega)
  have g1:((List.range C).map g)[i]?=some (g i):=by rw [List.getElem?_map,List.getElem?_range hi]; rfl
  have g2:((List.range C).map h)[i]?=some (h i):=by rw [List.getElem?_map,List.getElem?_range hi]; rfl
  have hpn:¬ p=0:=by omega
  have hl:((List.range i).length+1)*8≤LIM:=by rw [List.length_range]; omega
  simp only [zh0,hlt,decide_true,if_true,Int.natCast_nonneg,Int.toNat_natCast,g1,g2,Option.bind_some,e1,e2,hpn,if_false,List.length_map,List.length_singleton,hl,hw]
  rw [List.range_succ,List.map_append]
  rfl
 ·intro n
  simp only [zh0,Int.lt_irrefl,decide_false,Bool.false_eq_true,if_false]
theorem z1os {k:Nat} {m:Mat} {R C c:Nat} (hm:m.2.1=(R:Int)) (hR:R≤64) (hC:C≤64) (hc:c<C) (f:Nat→Nat→Int) (p det:Int) (row:Nat) (q5 q6:List Int) (u1 u2 u3 u4 u5 u6:Int) (E:(Int×Int×Int×List Int)→Int→Int→Int→Int→Int→Int→(List Int)→(List Int)→(List Int)→Int→Int→Int→Int→Int→Int→Option ((Int×Int×Int×List Int)×List Int×Int)) :
  ∀ (d at_ n:Nat),at_+d=R→d<n→zg8 k n m p (C:Int) det (row:Int) (c:Int) (at_:Int) q5 q6 (z10 R C f) u1 u2 u3 u4 u5 u6 E=E m p (C:Int) det (row:Int) (c:Int) (z1k f c d at_:Int) q5 q6 (z10 R C f) u1 u2 u3 u4 u5 u6:=by
 intro d
 induction d with
 | zero =>
  intro at_ n ha hn
  obtain ⟨n,rfl⟩:∃ m,n=m+1:=⟨n-1,by omega⟩
  have:¬ (at_:Int)<m.2.1:=by rw [hm]; omega
  simp only [zg8,this,decide_false,Bool.false_eq_true,if_false,z1k]
 | succ d ih =>
  intro at_ n ha hn
  obtain ⟨n,rfl⟩:∃ m,n=m+1:=⟨n-1,by omega⟩
  have hlt:(at_:Int)<m.2.1:=by rw [hm]; omega
  have hi:at_<R:=by omega
  have hw:=zd (i:=at_) (by omega)
  have hx:=z9l (i:=at_) (C:=C) (j:=c) (by omega) hC (by omega)
  have hl:=ixl hi hc
  simp only [zg8,hlt,decide_true,if_true,hx,Int.natCast_nonneg,Int.toNat_natCast,z4f,hl,and_self,z7f f hi hc,Option.bind_some,hw]
  by_cases h0:f at_ c=0
  ·rw [decide_eq_true h0,if_pos rfl,ih (at_+1) n (by omega) (by omega)]
   simp only [z1k,h0,if_true]
  ·rw [decide_eq_false h0,if_neg (by simp)]
   simp only [z1k,h0,if_false]
def z33 (f g:Nat→Nat→Int) (n:Nat):Nat→Nat→Int:=fun i j=>if j<n then g i j else f i j
theorem z1ot {f:Nat→Nat→Int} {a b n:Nat} (h:a≠b):z8e (z8e (z33 f (swF f a b) n) b n (f a n)) a n (f b n)=z33 f (swF f a b) (n+1):=by
 funext i j
 unfold z8e z33 swF
 by_cases hj:j=n
 ·subst hj
  rw [if_pos (Nat.lt_succ_self _)]
  by_cases h1:i=a
  ·rw [if_pos ⟨h1,rfl⟩,if_pos h1]
  ·rw [if_neg (fun e=>h1 e.1),if_neg h1]
   by_cases h2:i=b
   ·rw [if_pos ⟨h2,rfl⟩,if_pos h2]
   ·rw [if_neg (fun e=>h2 e.1),if_neg h2,if_neg (Nat.lt_irrefl _)]
 ·rw [if_neg (fun e=>hj e.2),if_neg (fun e=>hj e.2)]
  by_cases h1:j<n
  ·rw [if_pos h1,if_pos (show j<n+1 by omega)]
  ·rw [if_neg h1,if_neg (show ¬ j<n+1 by omega)]
theorem z1ou {k:Nat} (hk:KK≤k) {m:Mat} {R C c row at_:Nat} (hR:R≤64) (hC:C≤64) (hr:row<R) (ha:at_<R) (hne:row≠at_) (f:Nat→Nat→Int) (p det:Int) (q5 q6:List Int) (u1 u2 u3 u4 u5 u6:Int) (E:(Int×Int×Int×List Int)→Int→Int→Int→Int→Int→(List Int)→(List Int)→(List Int)→Int→Int→Int→Int→Int→Int→Option ((Int×Int×Int×List Int)×List Int×Int)) :
  zct k k m p (C:Int) det (row:Int) (c:Int) (at_:Int) 0 q5 q6 (z10 R C f) u1 u2 u3 u4 u5 u6 E=E m p (C:Int) det (row:Int) (c:Int) q5 q6 (z10 R C (swF f row at_)) u1 u2 u3 u4 u5 u6:=by
 have hK:=zg
 have e0:z10 R C f=z10 R C (z33 f (swF f row at_) 0):=zdg fun i j _ _=>by unfold z33; rw [if_neg (Nat.not_lt_zero _)]
 have e1:z10 R C (swF f row at_)=z10 R C (z33 f (swF f row at_) C):=zdg fun i j _ hj=>by unfold z33; rw [if_pos hj]
 rw [e0,e1]
 refine zb4 (S:=List Int) (L:=fun n j q=>zct k n m p (C:Int) det (row:Int) (c:Int) (at_:Int) j q5 q6 q u1 u2 u3 u4 u5 u6 E) (b:=C) (st:=fun j=>z10 R C (z33 f (swF f row at_) j)) ?_ ?_ (n:=k) (by omega)
 ·intro n j hj
  have hlt:(j:Int)<(C:Int):=by omega
  have hw:=zd (i:=j) (by omega)
  have x1:=z9l (i:=at_) (C:=C) (j:=j) (by omega) hC (by omega)
  have x2:=z9l (i:=row) (C:=C) (j:=j) (by omega) hC (by omega)
  have l1:=ixl ha hj
  have l2:=ixl hr hj
  have v1:z33 f (swF f row at_) j at_ j=f at_ j:=by unfold z33; rw [if_neg (Nat.lt_irrefl _)]
  have v2:z33 f (swF f row at_) j row j=f row j:=by unfold z33; rw [if_neg (Nat.lt_irrefl _)]
  simp only [zct,hlt,decide_true,if_true,x1,x2,Int.natCast_nonneg,Int.toNat_natCast,z4f,l1,l2,and_self,z7f _ ha hj,z7f _ hr hj,v1,v2,Option.bind_some,hw,zpk _ _ ha hj,zpk _ _ hr hj,z1ot hne]
 ·intro n
  simp only [zct,Int.lt_irrefl,decide_false,Bool.false_eq_true,if_false]
theorem z1ov {f:Nat→Nat→Int} {p:Int} {a n:Nat} {v:Int}:z8e (z33 f (scF f p a v) n) a n (Int.tmod (v*f a n) p)=z33 f (scF f p a v) (n+1):=by
 funext i j
 unfold z8e z33 scF
 by_cases hj:j=n
 ·subst hj
  rw [if_pos (Nat.lt_succ_self _)]
  by_cases h1:i=a
  ·rw [if_pos ⟨h1,rfl⟩,if_pos h1]
  ·rw [if_neg (fun e=>h1 e.1),if_neg h1,if_neg (Nat.lt_irrefl _)]
 ·rw [if_neg (fun e=>hj e.2)]
  by_cases h1:j<n
  ·rw [if_pos h1,if_pos (show j<n+1 by omega)]
  ·rw [if_neg h1,if_neg (show ¬ j<n+1 by omega)]
theorem z178 {k:Nat} (hk:KK≤k) {m:Mat} {R C c row:Nat} (hR:R≤64) (hC:C≤64) (hr:row<R) {f:Nat→Nat→Int} {p:Int} (hp:2≤p∧p≤251) (hf:BdF p f) {v:Int} (hv:0≤v∧v<p) (det:Int) (q5 q6:List Int) (u1 u2 u3 u4 u5 u6:Int) (E:(Int×Int×Int×List Int)→Int→Int→Int→Int→Int→(List Int)→(List Int)→(List Int)→Int→Int→Int→Int→Int→Int→Option ((Int×Int×Int×List Int)×List Int×Int)) :
  zaw k k m p (C:Int) det (row:Int) (c:Int) v 0 q5 q6 (z10 R C f) u1 u2 u3 u4 u5 u6 E=E m p (C:Int) det (row:Int) (c:Int) q5 q6 (z10 R C (scF f p row v)) u1 u2 u3 u4 u5 u6:=by
 have hK:=zg
 have e0:z10 R C f=z10 R C (z33 f (scF f p row v) 0):=zdg fun i j _ _=>by unfold z33; rw [if_neg (Nat.not_lt_zero _)]
 have e1:z10 R C (scF f p row v)=z10 R C (z33 f (scF f p row v) C):=zdg fun i j _ hj=>by unfold z33; rw [if_pos hj]
 rw [e0,e1]
 refine zb4 (S:=List Int) (L:=fun n j q=>zaw k n m p (C:Int) det (row:Int) (c:Int) v j q5 q6 q u1 u2 u3 u4 u5 u6 E) (b:=C) (st:=fun j=>z10 R C (z33 f (scF f p row v) j)) ?_ ?_ (n:=k) (by omega)
 ·intro n j hj
  have hlt:(j:Int)<(C:Int):=by omega
  have hw:=zd (i:=j) (by omega)
  have x2:=z9l (i:=row) (C:=C) (j:=j) (by omega) hC (by omega)
  have l2:=ixl hr hj
  have v2:z33 f (scF f p row v) j row j=f row j:=by unfold z33; rw [if_neg (Nat.lt_irrefl _)]
  have b:=zjg hp (hf row j) hv
  have e:z6 (f row j*v)=v*f row j:=by rw [zf (by omega) (by omega),Int.mul_comm]
  have hpn:¬ p=0:=by omega
  simp only [zaw,hlt,decide_true,if_true,x2,Int.natCast_nonneg,Int.toNat_natCast,z4f,l2,and_self,z7f _ hr hj,v2,Option.bind_some,hw,hpn,if_false,e,zpk _ _ hr hj,z1ov]
 ·intro n
  simp only [zaw,Int.lt_irrefl,decide_false,Bool.false_eq_true,if_false]
theorem z1ow {p:Int} (hp:2≤p∧p≤251) {x y z:Int} (hx:0≤x∧x<p) (hy:0≤y∧y<p) (hz:0≤z∧z<p):zcr (z6 (x-(z6 (y*z)))) p=some (Int.tmod (x+(p-y)*z) p):=by
 have b:=zjg hp hy hz
 have h0:¬ p=0:=by omega
 have e1:(p-y)*z=p*z-y*z:=Int.sub_mul _ _ _
 have b2:0≤(p-y)*z:=Int.mul_nonneg (by omega) hz.1
 have w1:z6 (y*z)=y*z:=zf (by omega) (by omega)
 have w2:z6 (x-y*z)=x-y*z:=zf (by omega) (by omega)
 have h1:=Int.tmod_lt_of_pos (x-y*z) (show 0<p by omega)
 have h2:=Int.lt_tmod_of_pos (x-y*z) (show 0<p by omega)
 have w3:z6 (Int.tmod (x-y*z) p+p)=Int.tmod (x-y*z) p+p:=zf (by omega) (by omega)
 unfold zcr
 rw [if_neg h0,if_neg h0,w1,w2,w3,zdh (by omega),zdh (Int.add_nonneg hx.1 b2)]
 congr 1
 have s1:∀ z:Int,(z+p) % p=z % p:=fun z=>by have:=Int.add_mul_emod_self_left z p 1; rwa [Int.mul_one] at this
 have e2:x+(p*z-y*z)=x-y*z+p*z:=by omega
 have:=Int.tmod_def (x-y*z) p
 rw [s1,e1,e2,Int.add_mul_emod_self_left,this,show (x-y*z)-p*Int.tdiv (x-y*z) p=(x-y*z)+p*(- Int.tdiv (x-y*z) p) by rw [Int.mul_neg]; omega,Int.add_mul_emod_self_left]
def clR (f:Nat→Nat→Int) (p:Int) (t c i n:Nat):Nat→Nat→Int:=fun x j=>if x=i∧j<n then Int.tmod (f i j+(p-f i c)*f t j) p else clF f p t c i x j
theorem z1ox {f:Nat→Nat→Int} {p:Int} {t c i n:Nat}:z8e (clR f p t c i n) i n (Int.tmod (f i n+(p-f i c)*f t n) p)=clR f p t c i (n+1):=by
 funext x j
 unfold z8e clR
 by_cases h:x=i∧j=n
 ·obtain ⟨rfl,rfl⟩:=h
  rw [if_pos ⟨rfl,rfl⟩,if_pos ⟨rfl,by omega⟩]
 ·rw [if_neg h]
  by_cases h2:x=i∧j<n
  ·rw [if_pos h2,if_pos ⟨h2.1,by omega⟩]
  ·rw [if_neg h2,if_neg (fun h3=>by
    rcases Nat.lt_or_ge j n with h4 | h4
    ·exact h2 ⟨h3.1,h4⟩
    ·exact h ⟨h3.1,by omega⟩)]
theorem z179 {k:Nat} (hk:KK≤k) {m:Mat} {R C c row:Nat} (hm:m.2.1=(R:Int)) (hR:R≤64) (hC:C≤64) (hc:c<C) (hr:row<R) {f:Nat→Nat→Int} {p:Int} (hp:2≤p∧p≤251) (hf:BdF p f) (det:Int) (q5 q6:List Int) (u1 u2 u3 u4 u5 u6:Int) (E:(Int×Int×Int×List Int)→Int→Int→Int→Int→Int→(List Int)→(List Int)→(List Int)→Int→Int→Int→Int→Int→Int→Option ((Int×Int×Int×List Int)×List Int×Int)) :
  z87 k k m p (C:Int) det (row:Int) (c:Int) 0 q5 q6 (z10 R C f) u1 u2 u3 u4 u5 u6 E=E m p (C:Int) det (row:Int) (c:Int) q5 q6 (z10 R C (clF f p row c R)) u1 u2 u3 u4 u5 u6:=by
 have hK:=zg
 have e0:z10 R C f=z10 R C (clF f p row c 0):=zdg fun i j _ _=>by unfold clF; rw [if_neg (fun h=>Nat.not_lt_zero _ h.1)]
 rw [e0]
 have inner:∀ (i:Nat),i<R→i≠row→f i c≠0→∀ (E:(Int×Int×Int×List Int)→Int→Int→Int→Int→Int→Int→(List Int)→(List Int)→(List Int)→Int→Int→Int→Int→Int→Int→Option ((Int×Int×Int×List Int)×List Int×Int)),
   zcs k k m p (C:Int) det (row:Int) (c:Int) (i:Int) (f i c) 0 q5 q6 (z10 R C (clF f p row c i)) u1 u2 u3 u4 u5 u6 E=E m p (C:Int) det (row:Int) (c:Int) (i:Int) q5 q6 (z10 R C (clF f p row c (i+1))) u1 u2 u3 u4 u5 u6:=by
  intro i hi h1 h2 E
  have e0:z10 R C (clF f p row c i)=z10 R C (clR f p row c i 0):=zdg fun x j _ _=>by unfold clR; rw [if_neg (fun h=>Nat.not_lt_zero _ h.2)]
  have e1:z10 R C (clF f p row c (i+1))=z10 R C (clR f p row c i C):=zdg fun x j _ hj=>by
   have hs:=congrFun (congrFun (z16z (p:=p) h1 h2) x) j
   rw [← hs]
   unfold clR
   by_cases hx:x=i
   ·simp only [hx,if_true,hj,and_self]
   ·simp only [hx,if_false,false_and]
  rw [e0,e1]
  refine zb4 (S:=List Int) (L:=fun n j q=>zcs k n m p (C:Int) det (row:Int) (c:Int) (i:Int) (f i c) j q5 q6 q u1 u2 u3 u4 u5 u6 E) (b:=C) (st:=fun j=>z10 R C (clR f p row c i j)) ?_ ?_ (n:=k) (by omega)
  ·intro n j hj
   have hlt:(j:Int)<(C:Int):=by omega
   have hw:=zd (i:=j) (by omega)
   have x1:=z9l (i:=i) (C:=C) (j:=j) (by omega) hC (by omega)
   have x2:=z9l (i:=row) (C:=C) (j:=j) (by omega) hC (by omega)
   have l1:=ixl hi hj
   have l2:=ixl hr hj
   have v1:clR f p row c i j i j=f i j:=by unfold clR; rw [if_neg (fun h=>Nat.lt_irrefl _ h.2),ztp]
   have v2:clR f p row c i j row j=f row j:=by unfold clR; rw [if_neg (fun h=>h1 h.1.symm),z16y]
   simp only [zcs,hlt,decide_true,if_true,x1,x2,Int.natCast_nonneg,Int.toNat_natCast,z4f,l1,l2,and_self,z7f _ hi hj,z7f _ hr hj,v1,v2,Option.bind_some,hw,z1ow hp (hf i j) (hf i c) (hf row j),zpk _ _ hi hj,z1ox]
  ·intro n
   simp only [zcs,Int.lt_irrefl,decide_false,Bool.false_eq_true,if_false]
 refine zb4 (S:=List Int) (L:=fun n i q=>z87 k n m p (C:Int) det (row:Int) (c:Int) i q5 q6 q u1 u2 u3 u4 u5 u6 E) (b:=R) (st:=fun i=>z10 R C (clF f p row c i)) ?_ ?_ (n:=k) (by omega)
 ·intro n i hi
  have hlt:(i:Int)<m.2.1:=by rw [hm]; omega
  have hw:=zd (i:=i) (by omega)
  have x1:=z9l (i:=i) (C:=C) (j:=c) (by omega) hC (by omega)
  have l1:=ixl hi hc
  simp only [z87,hlt,decide_true,if_true,x1,Int.natCast_nonneg,Int.toNat_natCast,z4f,l1,and_self,z7f _ hi hc,ztp,Option.bind_some,hw]
  by_cases h1:i=row
  ·rw [decide_eq_true (by omega),if_pos rfl,zpm (.inl h1)]
  ·rw [decide_eq_false (by omega),if_neg (by simp)]
   by_cases h2:f i c=0
   ·rw [decide_eq_true h2,if_pos rfl,zpm (.inr h2)]
   ·rw [decide_eq_false h2,if_neg (by simp),inner i hi h1 h2]
    simp only [hw]
 ·intro n
  have:¬ (R:Int)<m.2.1:=by rw [hm]; omega
  simp only [z87,this,decide_false,Bool.false_eq_true,if_false]
def z6n (p:Int) (R:Nat) (f:Nat→Nat→Int) (c t:Nat):Nat→Nat→Int:=clF (scF (swF f t (z1k f c (R-t) t)) p t (z9j p (f (z1k f c (R-t) t) c))) p t c R
def gz (p:Int) (R:Nat):Nat→Nat→(Nat→Nat→Int)→List Int→(Nat→Nat→Int)×List Int
 | 0,_,f,P=>(f,P)
 | d+1,c,f,P=>if z1k f c (R-P.length) P.length=R then gz p R d (c+1) f P else gz p R d (c+1) (z6n p R f c P.length) (P++[(c:Int)])
theorem z17a (p:Int) (R:Nat):∀ d c f P,P.length=R→gz p R d c f P=(f,P)
 | 0,_,_,_,_=>rfl
 | d+1,c,f,P,h=>by
  unfold gz
  rw [h,Nat.sub_self,if_pos (show z1k f c 0 R=R from rfl)]
  exact z17a p R d (c+1) f P h
theorem z17b {p:Int} (hp:2≤p∧p≤251) {R:Nat} {f:Nat→Nat→Int} (h:BdF p f) (c t:Nat):BdF p (z6n p R f c t):=z1or hp.1 (zjf hp.1 (zje h _ _) _ (z9k hp.1 _).1) _ _ _
theorem z17c (f:Nat→Nat→Int) (t:Nat):swF f t t=f:=by
 funext i j
 unfold swF
 by_cases h:i=t
 ·rw [if_pos h,h]
 ·rw [if_neg h,if_neg h]
theorem z1oy {k:Nat} (hk:KK≤k) {m:Mat} {R C:Nat} (hm:m.2.1=(R:Int)) (hR:R≤64) (hC:C≤64) {p:Int} (hp:2≤p∧p≤251) (q3:List Int) (u1 u2 u3 u4 u5 u6:Int) (E:Int→(List Int)→(List Int)→(List Int)→Int→Int→Int→Int→Int→Int→Option ((Int×Int×Int×List Int)×List Int×Int)) :
  ∀ (d c n:Nat) (f:Nat→Nat→Int) (P:List Int) (det:Int),c+d=C→d<n→BdF p f→P.length≤R→P.length≤c→∃ det',z9f k n m p (C:Int) det (P.length:Int) (c:Int) P q3 (z10 R C f) u1 u2 u3 u4 u5 u6 E=E det' (gz p R d c f P).2 q3 (z10 R C (gz p R d c f P).1) u1 u2 u3 u4 u5 u6:=by
 have hK:=zg
 have hL:=z1p
 intro d
 induction d with
 | zero =>
  intro c n f P det hc hn hf hP hPc
  obtain ⟨n,rfl⟩:∃ m,n=m+1:=⟨n-1,by omega⟩
  have:¬ (c:Int)<(C:Int):=by omega
  simp only [z9f,this,decide_false,Bool.false_eq_true,if_false,gz]
  exact ⟨_,rfl⟩
 | succ d ih =>
  intro c n f P det hc hn hf hP hPc
  obtain ⟨n,rfl⟩:∃ m,n=m+1:=⟨n-1,by omega⟩
  have hlt:(c:Int)<(C:Int):=by omega
  have hcC:c<C:=by omega
  simp only [z9f,hlt,decide_true,if_true]
  by_cases hr:P.length<R
  ·have hr':(P.length:Int)<m.2.1:=by rw [hm]; omega
   rw [decide_eq_true hr',if_pos rfl,z1os hm hR hC hcC f p det P.length P q3 u1 u2 u3 u4 u5 u6 _ (R-P.length) P.length k (by omega) (by omega)]
   have hs:=zpl f c (R-P.length) P.length
   have hw:=zd (i:=c) (by omega)
   have hw2:=zd (i:=P.length) (by omega)
   by_cases ha:z1k f c (R-P.length) P.length=R
   ·rw [decide_eq_true (by rw [hm,ha]),if_pos rfl,hw]
    obtain ⟨det',h⟩:=ih (c+1) n f P det (by omega) (by omega) hf hP (by omega)
    refine ⟨det',?_⟩
    rw [h]
    simp only [gz,ha,if_true]
   ·rw [decide_eq_false (by rw [hm]; omega),if_neg (by simp)]
    have haR:z1k f c (R-P.length) P.length<R:=by omega
    have hx:=z9l (i:=P.length) (C:=C) (j:=c) (by omega) hC (by omega)
    have hl:=ixl hr hcC
    have hg:(gz p R (d+1) c f P)=gz p R d (c+1) (z6n p R f c P.length) (P++[(c:Int)]):=by simp only [gz,ha,if_false]
    have hbl:(P.length+1)*8≤LIM:=by omega
    have hpn:¬ p=0:=by omega
    have hfa:=hf (z1k f c (R-P.length) P.length) c
    have hPl:((P++[(c:Int)]).length:Int)=((P.length+1:Nat):Int):=by rw [List.length_append]; rfl
    have fin:∀ det,∃ det',z9f k n m p (C:Int) det ((P.length+1:Nat):Int) ((c+1:Nat):Int) (P++[(c:Int)]) q3 (z10 R C (z6n p R f c P.length)) u1 u2 u3 u4 u5 u6 E=E det' (gz p R (d+1) c f P).2 q3 (z10 R C (gz p R (d+1) c f P).1) u1 u2 u3 u4 u5 u6:=fun det=>by
     obtain ⟨det',h⟩:=ih (c+1) n (z6n p R f c P.length) (P++[(c:Int)]) det (by omega) (by omega) (z17b hp hf c _) (by simp; omega) (by simp; omega)
     rw [hPl] at h
     exact ⟨det',by rw [h,hg]⟩
    by_cases hat:z1k f c (R-P.length) P.length=P.length
    ·rw [decide_eq_true (by omega),Bool.not_true,if_neg (by simp)]
     rw [hat] at hfa
     simp only [hx,Int.natCast_nonneg,Int.toNat_natCast,z4f,hl,and_self,if_true,z7f f hr hcC,Option.bind_some,hpn,if_false,z175 hk hp hfa]
     rw [z178 hk hR hC hr hp hf (z9k hp.1 _),z179 hk hm hR hC hcC hr hp (zjf hp.1 hf _ (z9k hp.1 _).1)]
     simp only [List.length_singleton,hbl,if_true,hw,hw2]
     have he:clF (scF f p P.length (z9j p (f P.length c))) p P.length c R=z6n p R f c P.length:=by unfold z6n; rw [hat,z17c]
     rw [he]
     exact fin _
    ·rw [decide_eq_false (by omega),Bool.not_false,if_pos rfl]
     have hv:swF f P.length (z1k f c (R-P.length) P.length) P.length c=f (z1k f c (R-P.length) P.length) c:=by unfold swF; rw [if_pos rfl]
     rw [z1ou hk hR hC hr haR (fun h=>hat h.symm)]
     simp only [hx,Int.natCast_nonneg,Int.toNat_natCast,z4f,hl,and_self,if_true,z7f _ hr hcC,hv,Option.bind_some,hpn,if_false,z175 hk hp hfa]
     rw [z178 hk hR hC hr hp (zje hf _ _) (z9k hp.1 _),z179 hk hm hR hC hcC hr hp (zjf hp.1 (zje hf _ _) _ (z9k hp.1 _).1)]
     simp only [List.length_singleton,hbl,if_true,hw,hw2]
     exact fin _
  ·have hr':¬ (P.length:Int)<m.2.1:=by rw [hm]; omega
   rw [decide_eq_false hr',if_neg (by simp),z17a p R (d+1) c f P (by omega)]
   exact ⟨_,rfl⟩
theorem z1oz {k:Nat} (hk:KK≤k) {R C c t:Nat} (hR:R≤64) (hc:c<C) (ht:t≤R) (f:Nat→Nat→Int) :
  zmk k (((z1q R C f).drop t).take (R-t)) (c:Int)=some (if z1k f c (R-t) t=R then -1 else (z1k f c (R-t) t:Int)-(t:Int)):=by
 have hK:=zg
 have hlen:(((z1q R C f).drop t).take (R-t)).length=R-t:=by rw [List.length_take,List.length_drop,z8d]; omega
 unfold zmk
 rw [hlen]
 have key:∀ (d i n:Nat),i+d=R-t→d<n→zgz k n (((z1q R C f).drop t).take (R-t)) (c:Int) ((R-t:Nat):Int) (i:Int) (some (-1))=some (if z1k f c d (t+i)=R then -1 else (z1k f c d (t+i):Int)-(t:Int)):=by
  intro d
  induction d with
  | zero =>
   intro i n hi hn
   obtain ⟨n,rfl⟩:∃ m,n=m+1:=⟨n-1,by omega⟩
   have:¬ (i:Int)<((R-t:Nat):Int):=by omega
   simp only [zgz,this,decide_false,Bool.false_eq_true,if_false]
   rw [if_pos (show z1k f c 0 (t+i)=R by show t+i=R; omega)]
  | succ d ih =>
   intro i n hi hn
   obtain ⟨n,rfl⟩:∃ m,n=m+1:=⟨n-1,by omega⟩
   have hlt:(i:Int)<((R-t:Nat):Int):=by omega
   have hw:=zd (i:=i) (by omega)
   have hg:(((z1q R C f).drop t).take (R-t))[i]?=some (z16 C f (t+i)):=by
    rw [List.getElem?_take_of_lt (by omega),List.getElem?_drop,z6m f (by omega)]
   simp only [zgz,ztl,hlt,decide_true,if_true,Int.natCast_nonneg,Int.toNat_natCast,hg,Option.bind_some,zdf f _ hc,hw]
   by_cases h0:f (t+i) c=0
   ·rw [decide_eq_true h0,Bool.not_true,if_neg (by simp),ih (i+1) n (by omega) (by omega),show t+(i+1)=t+i+1 by omega]
    simp only [z1k,h0,if_true]
   ·rw [decide_eq_false h0,Bool.not_false,if_pos rfl]
    simp only [z1k,h0,if_false]
    rw [if_neg (by omega)]
    congr 1
    omega
 exact key (R-t) 0 k (by omega) (by omega)
theorem z1p0 {R C t a:Nat} (f:Nat→Nat→Int) (ht:t<R) (ha:a<R) (h:a≠t):((z1q R C f).set t (z16 C f a)).set a (z16 C f t)=z1q R C (swF f t a):=by
 rw [zpj f f a ht,zpj _ f t ha]
 refine zto fun i j _ _=>?_
 unfold swF
 by_cases h1:i=a
 ·rw [if_pos h1,if_neg (fun e=>h (by omega)),if_pos h1]
 ·rw [if_neg h1]
  by_cases h2:i=t
  ·rw [if_pos h2,if_pos h2]
  ·rw [if_neg h2,if_neg h2,if_neg h1]
theorem z17d {k:Nat} (hk:KK≤k) {C t:Nat} (hC:C≤64) {f:Nat→Nat→Int} {p v:Int} (hp:2≤p∧p≤251) (hf:BdF p f) (hv:0≤v∧v<p):zaq k (List.replicate C 0) (z16 C f t) v p=some (z16 C (scF f p t v) t):=by
 have e:List.replicate C (0:Int)=(List.range C).map (fun _=>(0:Int)):=by rw [List.map_const',List.length_range]
 rw [e]
 unfold z16
 rw [z177 hk hp ⟨hv.1,by omega⟩ hC (g:=fun _=>0) (h:=f t) (fun _=>⟨by omega,by omega⟩) (fun j=>hf t j)]
 congr 1
 refine List.map_congr_left fun j _=>?_
 unfold scF
 rw [if_pos rfl,Int.zero_add]
theorem z17e {R C t:Nat} {f:Nat→Nat→Int} {p v:Int} (ht:t<R):(z1q R C f).set t (z16 C (scF f p t v) t)=z1q R C (scF f p t v):=by
 rw [zpj f _ t ht]
 refine zto fun i j _ _=>?_
 by_cases h:i=t
 ·rw [if_pos h,h]
 ·rw [if_neg h]; unfold scF; rw [if_neg h]
theorem z17f {k:Nat} (hk:KK≤k) {R C c t:Nat} (hR:R≤64) (hC:C≤64) (hc:c<C) (ht:t<R) {f:Nat→Nat→Int} {p:Int} (hp:2≤p∧p≤251) (hf:BdF p f) (det x16 x17 cc:Int) (q20:List Int) (E:Int→Int→Int→Int→Int→(List (List Int))→(List Int)→Int→Option ((((Unit×(Int×Unit))×Unit)×((List (List Int))×(List Int)×Unit)×Unit))) :
  z82 k k cc p det (t:Int) x16 x17 (R:Int) 0 (z1q R C f) q20 (c:Int) E=E cc p det x16 x17 (z1q R C (clF f p t c R)) q20 (c:Int):=by
 have hK:=zg
 have e0:z1q R C f=z1q R C (clF f p t c 0):=zto fun i j _ _=>by unfold clF; rw [if_neg (fun h=>Nat.not_lt_zero _ h.1)]
 rw [e0]
 refine zb4 (S:=List (List Int)) (L:=fun n i q=>z82 k n cc p det (t:Int) x16 x17 (R:Int) i q q20 (c:Int) E) (b:=R) (st:=fun i=>z1q R C (clF f p t c i)) ?_ ?_ (n:=k) (by omega)
 ·intro n i hi
  have hlt:(i:Int)<(R:Int):=by omega
  have hw:=zd (i:=i) (by omega)
  have r1:z16 C (clF f p t c i) i=z16 C f i:=zjd fun j _=>ztp _ _ _ _
  have r2:z16 C (clF f p t c i) t=z16 C f t:=zjd fun j _=>z16y _ _ _ _
  have hfi:=hf i c
  have hwp:z6 (p-f i c)=p-f i c:=zf (by omega) (by omega)
  simp only [z82,hlt,decide_true,if_true,Int.natCast_nonneg,Int.toNat_natCast,z8d,hi,and_self,z6m _ hi,z6m _ ht,r1,r2,Option.bind_some,zdf f i hc,hw,ht]
  by_cases h1:i=t
  ·rw [decide_eq_true (by omega),Bool.not_true,if_neg (by simp),zpm (.inl h1)]
  ·rw [decide_eq_false (by omega),Bool.not_false,if_pos rfl]
   by_cases h2:f i c=0
   ·rw [decide_eq_true h2,Bool.not_true,if_neg (by simp),zpm (.inr h2)]
   ·have ha:zaq k (z16 C f i) (z16 C f t) (z6 (p-f i c)) p=some (z16 C (fun _ j=>Int.tmod (f i j+(p-f i c)*f t j) p) i):=by
     rw [hwp]
     exact z177 hk hp ⟨by omega,by omega⟩ hC (g:=f i) (h:=f t) (fun j=>hf i j) (fun j=>hf t j)
    rw [decide_eq_false h2,Bool.not_false,if_pos rfl,ha]
    simp only [Option.bind_some]
    rw [zpj _ _ i hi]
    have hs:=z16z (p:=p) (f:=f) h1 h2
    rw [← hs]
 ·intro n
  simp only [z82,Int.lt_irrefl,decide_false,Bool.false_eq_true,if_false]
theorem z1p1 (x p:Int) (hp:2≤p):∃ r,zml x p=some r:=by
 have:¬ p=0:=by omega
 unfold zml
 rw [if_neg this,if_neg this]
 exact ⟨_,rfl⟩
theorem z1p2 {k:Nat} (hk:KK≤k) {R C:Nat} (hR:R≤64) (hC:C≤64) {p:Int} (hp:2≤p∧p≤251) (E:Int→(List (List Int))→(List Int)→Option ((((Unit×(Int×Unit))×Unit)×((List (List Int))×(List Int)×Unit)×Unit))) :
  ∀ (d c n:Nat) (f:Nat→Nat→Int) (P:List Int) (det:Int),c+d=C→d<n→BdF p f→P.length≤R→P.length≤c→∃ det',z99 k n (C:Int) p det (C:Int) (c:Int) (z1q R C f) P E=E det' (z1q R C (gz p R d c f P).1) (gz p R d c f P).2:=by
 have hK:=zg
 have hL:=z1p
 intro d
 induction d with
 | zero =>
  intro c n f P det hc hn hf hP hPc
  obtain ⟨n,rfl⟩:∃ m,n=m+1:=⟨n-1,by omega⟩
  have:¬ (c:Int)<(C:Int):=by omega
  simp only [z99,this,decide_false,Bool.false_eq_true,if_false,gz]
  exact ⟨_,rfl⟩
 | succ d ih =>
  intro c n f P det hc hn hf hP hPc
  obtain ⟨n,rfl⟩:∃ m,n=m+1:=⟨n-1,by omega⟩
  have hlt:(c:Int)<(C:Int):=by omega
  have hcC:c<C:=by omega
  have b1:0≤(P.length:Int)∧(P.length:Int)≤(R:Int)∧(R:Int)≤(R:Int):=⟨by omega,by omega,Int.le_refl _⟩
  have hs:=zpl f c (R-P.length) P.length
  have hw:=zd (i:=c) (by omega)
  simp only [z99,hlt,decide_true,if_true,z8d,b1,and_self,z1oz hk hR hcC hP f,Option.bind_some]
  by_cases ha:z1k f c (R-P.length) P.length=R
  ·have hm1:(-1:Int)<0:=by omega
   rw [if_pos ha,decide_eq_true hm1,if_pos rfl,hw]
   obtain ⟨det',h⟩:=ih (c+1) n f P 0 (by omega) (by omega) hf hP (by omega)
   refine ⟨det',?_⟩
   rw [h]
   simp only [gz,ha,if_true]
  ·have haR:z1k f c (R-P.length) P.length<R:=by omega
   have hr:P.length<R:=by omega
   have hg:(gz p R (d+1) c f P)=gz p R d (c+1) (z6n p R f c P.length) (P++[(c:Int)]):=by simp only [gz,ha,if_false]
   have hbl:(P.length+1)*8≤LIM:=by omega
   have hpn:¬ p=0:=by omega
   have hfa:=hf (z1k f c (R-P.length) P.length) c
   have hcols:0≤(C:Int)∧(C:Int)≤(C:Int)∧(C:Int)*8≤LIM:=⟨by omega,Int.le_refl _,by omega⟩
   have fin:∀ det,∃ det',z99 k n (C:Int) p det (C:Int) ((c+1:Nat):Int) (z1q R C (z6n p R f c P.length)) (P++[(c:Int)]) E=E det' (z1q R C (gz p R (d+1) c f P).1) (gz p R (d+1) c f P).2:=fun det=>by
    obtain ⟨det',h⟩:=ih (c+1) n (z6n p R f c P.length) (P++[(c:Int)]) det (by omega) (by omega) (z17b hp hf c _) (by simp; omega) (by simp; omega)
    exact ⟨det',by rw [h,hg]⟩
   rw [if_neg ha,decide_eq_false (by omega),if_neg (by simp)]
   by_cases hat:z1k f c (R-P.length) P.length=P.length
   ·rw [decide_eq_false (by omega),if_neg (by simp)]
    rw [hat] at hfa
    simp only [Int.natCast_nonneg,Int.toNat_natCast,z8d,hr,and_self,if_true,z6m f hr,Option.bind_some,zdf f _ hcC,hpn,if_false,hcols,z176 hk hp hfa,z17d hk hC hp hf (z9k hp.1 _),z17e hr,List.length_set]
    rw [z17f hk hR hC hcC hr hp (zjf hp.1 hf _ (z9k hp.1 _).1)]
    simp only [List.length_singleton,hbl,if_true,hw]
    have he:clF (scF f p P.length (z9j p (f P.length c))) p P.length c R=z6n p R f c P.length:=by unfold z6n; rw [hat,z17c]
    rw [he]
    exact fin _
   ·have hgt:(0:Int)<(z1k f c (R-P.length) P.length:Int)-(P.length:Int):=by omega
    have hix:z6 ((P.length:Int)+((z1k f c (R-P.length) P.length:Int)-(P.length:Int)))=(z1k f c (R-P.length) P.length:Int):=by rw [zf (by omega) (by omega)]; omega
    obtain ⟨r,hred⟩:=z1p1 (z6 (0-det)) p hp.1
    have hv:swF f P.length (z1k f c (R-P.length) P.length) P.length c=f (z1k f c (R-P.length) P.length) c:=by unfold swF; rw [if_pos rfl]
    have hset:∀ (x:List Int),((z1q R C f).set P.length x)[z1k f c (R-P.length) P.length]?=some (z16 C f (z1k f c (R-P.length) P.length)):=fun x=>by
     rw [List.getElem?_set_ne (fun h=>hat h.symm),z6m f haR]
    rw [decide_eq_true hgt,if_pos rfl]
    simp only [hix,Int.natCast_nonneg,Int.toNat_natCast,z8d,List.length_set,hr,haR,and_self,if_true,z6m f hr,z6m f haR,Option.bind_some,hset,hred,z1p0 f hr haR hat,z6m _ hr,zdf _ _ hcC,hv,hpn,if_false,hcols,z176 hk hp hfa,z17d hk hC hp (zje hf _ _) (z9k hp.1 _),z17e hr]
    rw [z17f hk hR hC hcC hr hp (zjf hp.1 (zje hf _ _) _ (z9k hp.1 _).1)]
    simp only [List.length_singleton,hbl,if_true,hw]
    exact fin _
def fM (m:Mat) (C:Nat):Nat→Nat→Int:=fun i j=>m.2.2.2.getD (i*C+j) 0
theorem z17g {m:Mat} {R C:Nat} (h:MatP m R C):(List.range R).map (z4x m.2.2.2 C)=z1q R C (fM m C):=by
 unfold z1q
 refine List.map_congr_left fun i hi=>?_
 have hi:=List.mem_range.1 hi
 refine List.ext_getElem? fun j=>?_
 rcases Nat.lt_or_ge j C with hj | hj
 ·rw [z16u hj,zdf _ _ hj]
  have hl:i*C+j<m.2.2.2.length:=by rw [h.len]; exact ixl hi hj
  unfold fM
  rw [List.getD_eq_getElem?_getD,List.getElem?_eq_getElem hl]
  rfl
 ·rw [List.getElem?_eq_none (by rw [zh1 h.len hi]; exact hj),List.getElem?_eq_none (by rw [zpi]; exact hj)]
theorem z1p3 {m:Mat} {R C:Nat} (h:MatP m R C) (C':Nat):BdF m.1 (fM m C'):=fun i j=>by
 have hp:=h.prime
 unfold fM
 rw [List.getD_eq_getElem?_getD]
 cases hx:m.2.2.2[i*C'+j]? with
 | none=>exact ⟨by simp,by simp; omega⟩
 | some x=>exact ⟨(h.cells x (List.mem_of_getElem? hx)).1,h.lt x (List.mem_of_getElem? hx)⟩
theorem ztq (p:Int) (R:Nat):∀ d c f P,P.length≤R→(gz p R d c f P).2.length≤R
 | 0,_,_,_,h=>h
 | d+1,c,f,P,h=>by
  unfold gz
  split
  ·exact ztq p R d (c+1) f P h
  ·rename_i hne
   refine ztq p R d (c+1) _ _ ?_
   have:=zpl f c (R-P.length) P.length
   rw [List.length_append,List.length_singleton]
   omega
theorem z1p4 {l:List Int} (h:l.length≤1048576):zfb l=some l:=by
 have hL:=z1p
 unfold zfb
 rw [if_pos (by simp only [List.length_nil]; omega)]
theorem z1p5 {k:Nat} (hk:KK≤k) {R C:Nat} (hR:R≤64) (hC:C≤64) {p:Int} (hp:2≤p∧p≤251) {f:Nat→Nat→Int} (hf:BdF p f):∃ det,zmm k (C:Int) p (z1q R C f)=some ((((),(det,())),()),(z1q R C (gz p R C 0 f []).1,(gz p R C 0 f []).2,()),()):=by
 have hK:=zg
 obtain ⟨det',e⟩:=z1p2 hk hR hC hp (fun det_42 q_43 q_44=>some ((((),(det_42,())),()),(q_43,q_44,()),())) C 0 k f [] 1 (by omega) (by omega) hf (Nat.zero_le _) (Nat.zero_le _)
 exact ⟨det',e⟩
theorem ztr {α:Type} {R:α→α→Prop} (tr:∀ a b c,R a b→R b c→R a c):∀ {l:List α},(∀ (i:Nat) (a b:α),l[i]?=some a→l[i+1]?=some b→R a b)→l.Pairwise R
 | [],_=>List.Pairwise.nil
 | [a],_=>List.pairwise_singleton ..
 | a::b::l,h=>by
  have h0:=h 0 a b rfl rfl
  have ih:=ztr tr (l:=b::l) (fun i x y hx hy=>h (i+1) x y hx hy)
  refine List.Pairwise.cons (fun x hx=>?_) ih
  rcases List.mem_cons.1 hx with rfl | hx
  ·exact h0
  ·exact tr _ _ _ h0 ((List.pairwise_cons.1 ih).1 x hx)
theorem z17h {α:Type} {R:α→α→Prop} {l:List α} (h:l.Pairwise R) {i:Nat} {a b:α} (ha:l[i]?=some a) (hb:l[i+1]?=some b):R a b:=by
 obtain ⟨h1,rfl⟩:=List.getElem?_eq_some_iff.1 ha
 obtain ⟨h2,rfl⟩:=List.getElem?_eq_some_iff.1 hb
 exact List.pairwise_iff_getElem.1 h i (i+1) h1 h2 (by omega)
def z7g {α:Type} (R:α→α→Prop) (l:List α) (i:Nat) (x:α):Prop:=0<i→∀ t,l[i-1]?=some t→R t x
theorem zpn {α:Type} {R:α→α→Prop} (tr:∀ a b c,R a b→R b c→R a c) {l:List α} {m:Nat} (h:∀ j,j<m→∀ x,l[j]?=some x→z7g R l j x):(l.take m).Pairwise R:=by
 refine ztr tr fun i a b ha hb=>?_
 have hi:i+1<m:=by
  have:=(List.getElem?_eq_some_iff.1 hb).1
  rw [List.length_take] at this; omega
 rw [List.getElem?_take_of_lt (by omega)] at ha
 rw [List.getElem?_take_of_lt hi] at hb
 exact h (i+1) hi b hb (by omega) a (by simpa using ha)
theorem zts {α:Type} {R:α→α→Prop} {l:List α} (h:l.Pairwise R) {i:Nat} {x:α} (hx:l[i]?=some x):z7g R l i x:=fun h0 t ht=>by
 have e:i=(i-1)+1:=by omega
 rw [e] at hx
 exact z17h h ht hx
theorem z1p6 {R:Type} {L:Nat→Int→R} {b:Nat} {p:Nat→Bool} {r e:R}
  (h1:∀ n (i:Nat),i<b→(∀ j,j<i→p j=true)→L (n+1) (i:Int)=if p i=true then L n ((i+1:Nat):Int) else r) (h2:∀ n,L (n+1) (b:Int)=e) {n:Nat} (hn:b<n):L n 0=if (List.range b).all p=true then e else r:=by
 refine z29 (α:=Nat) (A:=Unit) (L:=fun n i _=>L n i) (I:=fun pre _=>∀ j∈pre,p j=true) (G:=fun l _=>if l.all p=true then e else r) (List.range b) ?_ ?_ n (by simpa using hn) () (by simp)
 ·intro n pre x post _ hx hI ih hg hlt
  rw [List.length_range] at hlt
  have hxi:x=pre.length:=by
   rw [List.getElem?_range (by omega)] at hg
   simpa using hg.symm
  subst hxi
  have hpre:pre=List.range pre.length:=by
   have:=congrArg (List.take pre.length) hx
   rw [List.take_left,List.take_range] at this
   rw [Nat.min_eq_left (by omega)] at this
   exact this.symm
  rw [h1 n pre.length (by omega) (fun j hj=>hI j (by rw [hpre]; simpa using hj))]
  by_cases hp:p pre.length=true
  ·rw [if_pos hp,ih () (fun j hj=>by
    rcases List.mem_append.1 hj with hj | hj
    ·exact hI j hj
    ·rw [List.mem_singleton.1 hj]; exact hp)]
   simp [hp]
  ·rw [if_neg hp]; simp [hp]
 ·intro n _ _
  simpa using h2 n
structure SimpP (s:List Int):Prop where
 len1:1≤s.length
 len4:s.length≤4
 vert:∀ x∈s,0≤x∧x≤9
 rise:s.Pairwise (fun a b:Int=>a<b)
open Classical in
noncomputable def zb5 (s:List Int):Bool:=decide (SimpP s)
theorem zb6 {s:List Int}:zb5 s=true↔SimpP s:=by unfold zb5; simp
open Classical in
theorem z17i {k:Nat} (hk:KK≤k) {s:List Int} (hs:s.length≤1000000000) (lo up:Int):zii k s lo up=some (decide ((∀ x∈s,lo≤x∧x≤up)∧s.Pairwise (fun a b:Int=>a<b))):=by
 have hK:=zg
 unfold zii
 have:=z4d (L:=fun n i=>zc5 k n s lo up i (some true)) (b:=s.length) (p:=fun i=>decide (∀ x,s[i]?=some x→(lo≤x∧x≤up)∧z7g (fun a b:Int=>a<b) s i x)) (r:=some false) (e:=some true) ?_ ?_ (n:=k) (by omega)
 ·rw [this]
  have e:((List.range s.length).all (fun i=>decide (∀ x,s[i]?=some x→(lo≤x∧x≤up)∧z7g (fun a b:Int=>a<b) s i x))=true)↔((∀ x∈s,lo≤x∧x≤up)∧s.Pairwise (fun a b:Int=>a<b)):=by
   simp only [List.all_eq_true,List.mem_range,decide_eq_true_eq]
   constructor
   ·intro h
    refine ⟨fun x hx=>?_,?_⟩
    ·obtain ⟨i,hi,rfl⟩:=List.getElem_of_mem hx
     exact (h i hi _ (List.getElem?_eq_getElem hi)).1
    ·have:=zpn (R:=fun a b:Int=>a<b) (fun a b c=>Int.lt_trans) (l:=s) (m:=s.length) (fun j hj x hx=>(h j hj x hx).2)
     rwa [List.take_length] at this
   ·rintro ⟨h1,h2⟩ i hi x hx
    exact ⟨h1 x (List.mem_of_getElem? hx),zts h2 hx⟩
  by_cases c:((∀ x∈s,lo≤x∧x≤up)∧s.Pairwise (fun a b:Int=>a<b))
  ·rw [if_pos (e.2 c),decide_eq_true c]
  ·rw [if_neg (fun h=>c (e.1 h)),decide_eq_false c]
 ·intro n i hi
  have hlt:(i:Int)<(s.length:Int):=by omega
  have hw:=zd (i:=i) (by omega)
  have hg:s[i]?=some s[i]:=List.getElem?_eq_getElem hi
  simp only [zc5,hlt,decide_true,if_true,Int.natCast_nonneg,Int.toNat_natCast,hg,Option.bind_some,hw,z7e,Option.some.injEq,forall_eq']
  by_cases c1:lo≤s[i]∧s[i]≤up
  ·rw [decide_eq_true c1]
   simp only [Bool.not_true,Bool.false_eq_true,if_false]
   by_cases h0:0<i
   ·have h0':(0:Int)<(i:Int):=by omega
    have hw1:z6 ((i:Int)-1)=((i-1:Nat):Int):=by rw [zf (by omega) (by omega)]; omega
    have hg1:s[i-1]?=some s[i-1]:=List.getElem?_eq_getElem (by omega)
    simp only [h0',decide_true,if_true,hw1,Int.natCast_nonneg,Int.toNat_natCast,hg1,Option.bind_some]
    by_cases c2:s[i-1]<s[i]
    ·have:z7g (fun a b:Int=>a<b) s i s[i]:=fun _ t ht=>by rw [hg1] at ht; cases ht; exact c2
     rw [if_neg (by simp; omega),if_pos (decide_eq_true ⟨c1,this⟩)]
    ·have:¬ z7g (fun a b:Int=>a<b) s i s[i]:=fun h=>c2 (h h0 _ hg1)
     rw [if_pos (decide_eq_true (by omega)),if_neg (fun h=>this (of_decide_eq_true h).2)]
   ·have h0':¬ (0:Int)<(i:Int):=by omega
    have:z7g (fun a b:Int=>a<b) s i s[i]:=fun h=>absurd h h0
    rw [decide_eq_false h0',if_neg (by simp),if_pos (decide_eq_true ⟨c1,this⟩)]
  ·rw [decide_eq_false c1,if_pos (by simp),if_neg (fun h=>c1 (of_decide_eq_true h).1)]
 ·intro n
  simp only [zc5,Int.lt_irrefl,decide_false,Bool.false_eq_true,if_false]
open Classical in
theorem z1p7 {k:Nat} (hk:KK≤k) {s:List Int} (hs:s.length≤1000000000):zmg k s=some (zb5 s):=by
 unfold zmg
 rw [z7e]
 simp only [Option.bind_some,z17i hk hs]
 by_cases c:(1:Int)≤(s.length:Int)∧(s.length:Int)≤4
 ·rw [decide_eq_true c,if_pos rfl]
  congr 1
  unfold zb5
  refine decide_eq_decide.2 ⟨fun h=>⟨by omega,by omega,h.1,h.2⟩,fun h=>⟨h.vert,h.rise⟩⟩
 ·rw [decide_eq_false c,if_neg (by simp)]
  congr 1
  unfold zb5
  rw [decide_eq_false (fun h:SimpP s=>c ⟨by have:=h.len1; omega,by have:=h.len4; omega⟩)]
open Classical in
theorem z17j {k:Nat} (hk:KK≤k) {s:List Int} (hs:s.length≤1000000000):ziu k s=some (decide (s.Pairwise (fun a b:Int=>a<b))):=by
 have hK:=zg
 unfold ziu
 have key:∀ (d n i:Nat),s.length-i=d→d<n→0<i→(s.take i).Pairwise (fun a b:Int=>a<b)→zgc k n s (i:Int) (some true)=some (decide (s.Pairwise (fun a b:Int=>a<b))):=by
  intro d
  induction d with
  | zero =>
   intro n i hd hn h0 hp
   obtain ⟨n,rfl⟩:∃ m,n=m+1:=⟨n-1,by omega⟩
   have:¬ (i:Int)<(s.length:Int):=by omega
   rw [List.take_of_length_le (by omega)] at hp
   simp only [zgc,this,decide_false,Bool.false_eq_true,if_false,decide_eq_true hp]
  | succ d ih =>
   intro n i hd hn h0 hp
   obtain ⟨n,rfl⟩:∃ m,n=m+1:=⟨n-1,by omega⟩
   have hi:i<s.length:=by omega
   have hlt:(i:Int)<(s.length:Int):=by omega
   have hw:=zd (i:=i) (by omega)
   have hw1:z6 ((i:Int)-1)=((i-1:Nat):Int):=by rw [zf (by omega) (by omega)]; omega
   have hg:s[i]?=some s[i]:=List.getElem?_eq_getElem hi
   have hg1:s[i-1]?=some s[i-1]:=List.getElem?_eq_getElem (by omega)
   simp only [zgc,hlt,decide_true,if_true,Int.natCast_nonneg,Int.toNat_natCast,hg,hg1,Option.bind_some,hw,hw1]
   by_cases c:s[i-1]<s[i]
   ·rw [decide_eq_false (show ¬ s[i]≤s[i-1] by omega),if_neg (by simp)]
    refine ih n (i+1) (by omega) (by omega) (by omega) ?_
    refine ztr (R:=fun a b:Int=>a<b) (fun a b c=>Int.lt_trans) fun j a b ha hb=>?_
    have hj:j+1<i+1:=by
     have:=(List.getElem?_eq_some_iff.1 hb).1
     rw [List.length_take] at this; omega
    rw [List.getElem?_take_of_lt (by omega)] at ha
    rw [List.getElem?_take_of_lt hj] at hb
    by_cases hji:j+1=i
    ·have e1:a=s[i-1]:=by
      have:s[j]?=s[i-1]?:=by rw [show j=i-1 by omega]
      rw [ha,hg1] at this
      exact Option.some.inj this
     have e2:b=s[i]:=by
      rw [hji,hg] at hb
      exact (Option.some.inj hb).symm
     rw [e1,e2]; exact c
    ·exact z17h hp (i:=j) (by rw [List.getElem?_take_of_lt (by omega)]; exact ha) (by rw [List.getElem?_take_of_lt (by omega)]; exact hb)
   ·rw [decide_eq_true (show s[i]≤s[i-1] by omega),if_pos rfl]
    congr 1
    refine (decide_eq_false fun h=>c ?_).symm
    exact List.pairwise_iff_getElem.1 h (i-1) i (by omega) hi (by omega)
 have h1:=key (s.length-1) k 1 rfl (by omega) (by omega) (by cases s with
  | nil=>simp
  | cons a l=>simp)
 exact h1
theorem z1p8 {k:Nat} (hk:KK≤k) {s:List Int} (hs:s.length≤1000000000):zoh k s ()=some (s.any fun x=>!decide (0≤x∧x≤9)):=by
 have hK:=zg
 unfold zoh zso
 rw [zap (L:=fun n i=>zgd k n s () (s.length:Int) i (some (-1))) (p:=fun x=>!decide (0≤x∧x≤9)) s ?_ ?_ (n:=k) (by omega)]
 ·rw [Option.bind_some,zde]
 ·intro n i x hi hlt
  have hw:=zd (i:=i) (by omega)
  simp only [zgd,zsn,zsm,z6l,hlt,decide_true,if_true,Int.natCast_nonneg,Int.toNat_natCast,hi,Option.bind_some,hw]
 ·intro n
  simp [zgd]
theorem z1p9 {k:Nat} (hk:KK≤k) {s:List Int} (hs:s.length≤1000000000):zoi k s=some (zb5 s):=by
 unfold zoi
 by_cases c1:1≤s.length
 ·rw [decide_eq_true (show (1:Int)≤(s.length:Int) by omega),if_pos rfl]
  by_cases c2:s.length≤4
  ·rw [decide_eq_true (show (s.length:Int)≤4 by omega),if_pos rfl,z17j hk hs,z1p8 hk hs]
   simp only [Option.bind_some]
   by_cases c3:s.Pairwise (fun a b:Int=>a<b)
   ·rw [decide_eq_true c3,if_pos rfl]
    congr 1
    rw [Bool.eq_iff_iff,zb6]
    simp only [Bool.not_eq_true',List.any_eq_false,Bool.not_eq_true,decide_eq_false_iff_not,Bool.not_eq_false',decide_eq_true_eq]
    exact ⟨fun h=>⟨c1,c2,fun x hx=>by simpa using h x hx,c3⟩,fun h x hx=>by simpa using h.vert x hx⟩
   ·rw [decide_eq_false c3,if_neg (by simp)]
    congr 1
    symm
    rw [Bool.eq_false_iff,ne_eq,zb6]
    exact fun h=>c3 h.rise
  ·rw [decide_eq_false (show ¬ (s.length:Int)≤4 by omega),if_neg (by simp)]
   congr 1
   symm
   rw [Bool.eq_false_iff,ne_eq,zb6]
   exact fun h=>c2 h.len4
 ·rw [decide_eq_false (show ¬ (1:Int)≤(s.length:Int) by omega),if_neg (by simp)]
  congr 1
  symm
  rw [Bool.eq_false_iff,ne_eq,zb6]
  exact fun h=>c1 h.len1
def cI (x y:Int):Int:=if x<y then -1 else if y<x then 1 else 0
theorem ztt (x y:Int):zay x y=some (cI x y):=by
 unfold zay zol cI
 by_cases h1:x<y
 ·simp [h1]
 ·by_cases h2:y<x <;> simp [h1,h2]
theorem z1pa (x y:Int):zok x y=some (cI x y):=by
 unfold zok zoj cI
 by_cases h1:x<y
 ·simp [h1]
 ·by_cases h2:y<x <;> simp [h1,h2]
theorem ztu {k:Nat} (hk:KK≤k) (a b:Int):zj5 k [a,b]=some (if a=0 then b else a):=by
 have hK:=zg
 obtain ⟨m,rfl⟩:∃ m,k=m+3:=⟨k-3,by omega⟩
 generalize hf:m+3=k
 have hw0:z6 1=1:=zf (by omega) (by omega)
 have hw1:z6 2=2:=zf (by omega) (by omega)
 show zcz k k 0 [a,b] 2 0 (fun zero_2=>some zero_2)=_
 conv=>lhs; arg 2; rw [← hf]
 by_cases h:a=0
 ·by_cases h':b=0
  ·subst h; subst h'; simp [zcz,hw0,hw1]
  ·subst h; simp [zcz,hw0,hw1,h']
 ·simp [zcz,h]
def z4y:List Int→List Int→Bool
 | x::a,y::b=>if x=y then z4y a b else decide (x<y)
 | _,_=>false
def z1e (a b:List Int):Bool:=decide (a.length<b.length)||(decide (a.length=b.length)&&z4y a b)
theorem z17k:∀ a:List Int,z4y a a=false
 | []=>rfl
 | x::a=>by simp [z4y,z17k a]
theorem z17l:∀ a b c:List Int,a.length=b.length→b.length=c.length→z4y a b=true→z4y b c=true→z4y a c=true
 | [],_,_,_,_,h,_=>by simp [z4y] at h
 | _::_,[],_,_,_,h,_=>by simp [z4y] at h
 | _::_,_::_,[],_,_,_,h=>by simp [z4y] at h
 | x::a,y::b,z::c,h1,h2,h3,h4=>by
  simp only [z4y] at h3 h4 ⊢
  by_cases c1:x=y
  ·subst c1
   rw [if_pos rfl] at h3
   by_cases c2:x=z
   ·rw [if_pos c2] at h4 ⊢
    exact z17l a b c (by simpa using h1) (by simpa using h2) h3 h4
   ·rw [if_neg c2] at h4 ⊢; exact h4
  ·rw [if_neg c1,decide_eq_true_eq] at h3
   by_cases c2:y=z
   ·subst c2; rw [if_neg c1,decide_eq_true_eq]; exact h3
   ·rw [if_neg c2,decide_eq_true_eq] at h4
    rw [if_neg (by omega),decide_eq_true_eq]; omega
theorem zpo (a:List Int):z1e a a=false:=by unfold z1e; simp [z17k]
theorem zjh {a b c:List Int} (h1:z1e a b=true) (h2:z1e b c=true):z1e a c=true:=by
 unfold z1e at *
 simp only [Bool.or_eq_true,Bool.and_eq_true,decide_eq_true_eq] at *
 rcases h1 with h1 | ⟨e1,h1⟩
 ·rcases h2 with h2 | ⟨e2,h2⟩
  ·left; omega
  ·left; omega
 ·rcases h2 with h2 | ⟨e2,h2⟩
  ·left; omega
  ·exact .inr ⟨by omega,z17l a b c e1 e2 h1 h2⟩
theorem z1pb {a b:List Int} (h:z1e a b=true):z1e b a=false:=by
 cases h':z1e b a
 ·rfl
 ·have:=zjh h h'
  rw [zpo] at this; cases this
def z6a:List Int→List Int→Int
 | x::a,y::b=>if cI x y=0 then z6a a b else cI x y
 | _::_,[]=>1
 | [],_::_ => -1
 | [],[]=>0
def z8f (a b:List Int):Int:=if cI (a.length:Int) (b.length:Int)=0 then z6a a b else cI (a.length:Int) (b.length:Int)
theorem zdi (x y:Int):cI x y=0↔x=y:=by
 unfold cI
 by_cases h1:x<y
 ·rw [if_pos h1]; constructor <;> intro h <;> omega
 ·rw [if_neg h1]
  by_cases h2:y<x
  ·rw [if_pos h2]; constructor <;> intro h <;> omega
  ·rw [if_neg h2]; constructor <;> intro h <;> omega
theorem z17m (x y:Int):cI x y<0↔x<y:=by
 unfold cI
 by_cases h1:x<y
 ·rw [if_pos h1]; constructor <;> intro h <;> omega
 ·rw [if_neg h1]
  by_cases h2:y<x
  ·rw [if_pos h2]; constructor <;> intro h <;> omega
  ·rw [if_neg h2]; constructor <;> intro h <;> omega
theorem z17n:∀ a b:List Int,z6a a b=0↔a=b
 | [],[]=>by simp [z6a]
 | _::_,[]=>by simp [z6a]
 | [],_::_=>by simp [z6a]
 | x::a,y::b=>by
  unfold z6a
  by_cases c:cI x y=0
  ·rw [if_pos c,z17n a b,(zdi x y).1 c]; simp
  ·rw [if_neg c]
   have:x≠y:=fun e=>c ((zdi x y).2 e)
   simp [c,this]
theorem z17o:∀ a b:List Int,a.length=b.length→(z6a a b<0↔z4y a b=true)
 | [],[],_=>by simp [z6a,z4y]
 | _::_,[],h=>by simp at h
 | [],_::_,h=>by simp at h
 | x::a,y::b,h=>by
  unfold z6a z4y
  by_cases c:cI x y=0
  ·rw [if_pos c,if_pos ((zdi x y).1 c)]
   exact z17o a b (by simpa using h)
  ·rw [if_neg c,if_neg (fun e=>c ((zdi x y).2 e)),z17m,decide_eq_true_eq]
theorem z17p (a b:List Int):z8f a b=0↔a=b:=by
 unfold z8f
 by_cases c:cI (a.length:Int) (b.length:Int)=0
 ·rw [if_pos c]; exact z17n a b
 ·rw [if_neg c]
  exact ⟨fun h=>absurd h c,fun h=>by rw [h] at c; exact absurd ((zdi _ _).2 rfl) c⟩
theorem z17q (a b:List Int):decide (z8f a b<0)=z1e a b:=by
 rw [Bool.eq_iff_iff,decide_eq_true_eq]
 unfold z8f z1e
 simp only [Bool.or_eq_true,Bool.and_eq_true,decide_eq_true_eq]
 by_cases c:cI (a.length:Int) (b.length:Int)=0
 ·have e:=(zdi _ _).1 c
  rw [if_pos c,z17o a b (by omega)]
  constructor
  ·intro h; exact .inr ⟨by omega,h⟩
  ·rintro (h | h)
   ·omega
   ·exact h.2
 ·have e:¬ (a.length:Int)=(b.length:Int):=fun e=>c ((zdi _ _).2 e)
  rw [if_neg c,z17m]
  constructor
  ·intro h; left; omega
  ·rintro (h | h)
   ·omega
   ·omega
theorem z1pc (a b:List Int):decide (0≤z8f a b)=!z1e a b:=by
 rw [← z17q]
 by_cases h:z8f a b<0
 ·rw [decide_eq_true h,decide_eq_false (by omega)]; rfl
 ·rw [decide_eq_false h,decide_eq_true (by omega)]; rfl
theorem z1pd {k:Nat} (hk:KK≤k) {a b:List Int} (ha:a.length≤1000000000) (hb:b.length≤1000000000):zom k a b=some (z6a a b):=by
 have hK:=zg
 unfold zom
 have key:∀ (d n i:Nat),a.length-i=d→d<n→zge k n a b a (a.length:Int) (i:Int) (fun s_4 s_5=>(if (decide ((List.length s_4:Int)<(List.length s_5:Int)))=true then some (-1) else some 0))=(if i≤a.length then some (if a.length≤i then (if i<b.length then -1 else 0) else z6a (a.drop i) (b.drop i)) else some (if a.length<b.length then -1 else 0)):=by
  intro d
  induction d with
  | zero =>
   intro n i hd hn
   obtain ⟨n,rfl⟩:∃ m,n=m+1:=⟨n-1,by omega⟩
   have:¬ (i:Int)<(a.length:Int):=by omega
   simp only [zge,this,decide_false,Bool.false_eq_true,if_false]
   by_cases h1:i≤a.length
   ·have:i=a.length:=by omega
    subst this
    rw [if_pos (Nat.le_refl _),if_pos (Nat.le_refl _)]
    by_cases h2:a.length<b.length
    ·rw [decide_eq_true (by omega),if_pos rfl,if_pos h2]
    ·rw [decide_eq_false (by omega),if_neg (by simp),if_neg h2]
   ·rw [if_neg h1]
    by_cases h2:a.length<b.length
    ·rw [decide_eq_true (by omega),if_pos rfl,if_pos h2]
    ·rw [decide_eq_false (by omega),if_neg (by simp),if_neg h2]
  | succ d ih =>
   intro n i hd hn
   obtain ⟨n,rfl⟩:∃ m,n=m+1:=⟨n-1,by omega⟩
   have hi:i<a.length:=by omega
   have hlt:(i:Int)<(a.length:Int):=by omega
   have hw:=zd (i:=i) (by omega)
   have da:a.drop i=a[i]::a.drop (i+1):=List.drop_eq_getElem_cons hi
   rw [if_pos (by omega),if_neg (by omega),da]
   simp only [zge,hlt,decide_true,if_true,Int.natCast_nonneg,Int.toNat_natCast,List.getElem?_eq_getElem hi,Option.bind_some,hw]
   by_cases hb2:i<b.length
   ·have db:b.drop i=b[i]::b.drop (i+1):=List.drop_eq_getElem_cons hb2
    rw [db,decide_eq_false (by omega),if_neg (by simp),List.getElem?_eq_getElem hb2]
    simp only [Option.bind_some,ztt]
    unfold z6a
    by_cases c:cI a[i] b[i]=0
    ·rw [decide_eq_true c,if_neg (by simp),if_pos c,ih n (i+1) (by omega) (by omega),if_pos (by omega)]
     by_cases h3:a.length≤i+1
     ·rw [if_pos h3,List.drop_of_length_le (l:=a) (by omega)]
      by_cases h4:i+1<b.length
      ·rw [if_pos h4,List.drop_eq_getElem_cons h4]; rfl
      ·rw [if_neg h4,List.drop_of_length_le (l:=b) (by omega)]; rfl
     ·rw [if_neg h3]
    ·rw [decide_eq_false c,if_pos (by simp),if_neg c]
   ·rw [List.drop_of_length_le (l:=b) (by omega),decide_eq_true (by omega),if_pos rfl]
    rfl
 have h0:=key a.length k 0 (by omega) (by omega)
 have hz:((0:Nat):Int)=0:=rfl
 rw [hz] at h0
 rw [h0,if_pos (Nat.zero_le _),List.drop_zero,List.drop_zero]
 by_cases c:a.length≤0
 ·have:a=[]:=List.length_eq_zero_iff.1 (by omega)
  subst this
  rw [if_pos c]
  cases b with
  | nil=>rfl
  | cons y b=>rw [if_pos (by simp)]; rfl
 ·rw [if_neg c]
theorem zpp {k:Nat} (hk:KK≤k) {a b:List Int} (ha:a.length≤1000000000) (hb:b.length≤1000000000):zd0 k a b=some (z8f a b):=by
 unfold zd0 z8f
 rw [z1pa,z1pd hk ha hb]
 simp only [Option.bind_some,ztu hk]
theorem z1pe {k:Nat} (hk:KK≤k) {a b:List Int} (ha:a.length≤1000000000):zmh k a b=some (z1e a b):=by
 have hK:=zg
 unfold zmh z1e
 by_cases hl:a.length=b.length
 ·rw [decide_eq_true (show (a.length:Int)=(b.length:Int) by omega),if_neg (by simp),decide_eq_false (by omega),decide_eq_true hl,Bool.false_or,Bool.true_and]
  have key:∀ (d n i:Nat),a.length-i=d→d<n→zfa k n a b (i:Int) (some false)=some (z4y (a.drop i) (b.drop i)):=by
   intro d
   induction d with
   | zero =>
    intro n i hd hn
    obtain ⟨n,rfl⟩:∃ m,n=m+1:=⟨n-1,by omega⟩
    have:¬ (i:Int)<(a.length:Int):=by omega
    simp only [zfa,this,decide_false,Bool.false_eq_true,if_false]
    rw [List.drop_of_length_le (l:=a) (by omega)]; rfl
   | succ d ih =>
    intro n i hd hn
    obtain ⟨n,rfl⟩:∃ m,n=m+1:=⟨n-1,by omega⟩
    have hi:i<a.length:=by omega
    have hib:i<b.length:=by omega
    have hlt:(i:Int)<(a.length:Int):=by omega
    have hw:=zd (i:=i) (by omega)
    have da:a.drop i=a[i]::a.drop (i+1):=List.drop_eq_getElem_cons hi
    have db:b.drop i=b[i]::b.drop (i+1):=List.drop_eq_getElem_cons hib
    rw [da,db]
    unfold z4y
    simp only [zfa,hlt,decide_true,if_true,Int.natCast_nonneg,Int.toNat_natCast,List.getElem?_eq_getElem hi,List.getElem?_eq_getElem hib,Option.bind_some,hw]
    by_cases c:a[i]=b[i]
    ·rw [decide_eq_true c,if_neg (by simp),if_pos c]
     exact ih n (i+1) (by omega) (by omega)
    ·rw [decide_eq_false c,if_pos (by simp),if_neg c]
  exact key a.length k 0 (by omega) (by omega)
 ·rw [decide_eq_false (show ¬ (a.length:Int)=(b.length:Int) by omega),if_pos (by simp),decide_eq_false hl,Bool.false_and,Bool.or_false]
  exact congrArg some (decide_eq_decide.2 (by omega))
theorem z1pf {i j:Nat} (h:i+j<4611686018427387904):z6 (Int.fdiv (zc3 (z6 ((i:Int)+(j:Int)))) (2 ^ 1))=(((i+j) / 2:Nat):Int):=by
 rw [zf (x:=(i:Int)+j) (by omega) (by omega)]
 have hu:zc3 ((i:Int)+(j:Int))=(i:Int)+j:=by unfold zc3 IntKind.wrap; simp [IntKind.bits,IntKind.signed]; omega
 rw [hu,Int.fdiv_eq_ediv_of_nonneg _ (by omega),zf (by omega) (by omega)]
 omega
abbrev Cx:=List (List Int)
def zw (s:List Int) (k:Nat):List Int:=s.take k++s.drop (k+1)
theorem z8g {s:List Int} {k:Nat} (h:k<s.length):(zw s k).length=s.length-1:=by
 unfold zw; rw [List.length_append,List.length_take,List.length_drop]; omega
structure CxP (c:Cx):Prop where
 len:c.length≤48
 simp:∀ s∈c,SimpP s
 ord:c.Pairwise (fun a b=>z1e a b=true)
 face:∀ s∈c,1<s.length→∀ k,k<s.length→zw s k∈c
open Classical in
noncomputable def cxB (c:Cx):Bool:=decide (CxP c)
theorem zb7 {c:Cx}:cxB c=true↔CxP c:=by unfold cxB; simp
def z4z (c:Cx):Prop:=c.length≤1048576∧∀ s∈c,s.length≤1048576
theorem zpq {s:List Int} (hs:s.length≤1048576) {k:Nat} (h:k<s.length):zc6 s (k:Int)=some (zw s k):=by
 have hL:=z1p
 have hw:=zd (i:=k) (by omega)
 have b1:(k:Int)≤(s.length:Int):=by omega
 have b2:((k+1:Nat):Int)≤(s.length:Int):=by omega
 unfold zc6 zfb
 have hdr:(s.drop (k+1)).take (s.length-(k+1))=s.drop (k+1):=List.take_of_length_le (by rw [List.length_drop]; exact Nat.le_refl _)
 simp only [Int.natCast_nonneg,Int.le_refl,b1,and_self,if_true,Int.toNat_natCast]
 rw [if_pos (by simp only [List.length_nil,List.length_take]; omega)]
 simp only [Option.bind_some,hw,Int.natCast_nonneg,Int.toNat_natCast,b2,Int.le_refl,and_self,if_true,hdr]
 rw [if_pos (by simp only [List.length_take,List.length_drop]; omega)]
 rfl
def z2r (c:Cx) (s:List Int):Nat:=c.findIdx (fun y=>decide (y=s))
theorem z9m {c:Cx} {s:List Int}:z2r c s<c.length↔s∈c:=by
 unfold z2r
 rw [List.findIdx_lt_length]
 constructor
 ·rintro ⟨x,hx,h⟩; rw [← of_decide_eq_true h]; exact hx
 ·intro h; exact ⟨s,h,decide_eq_true rfl⟩
theorem zdj {c:Cx} {s:List Int} (h:s∈c):c[z2r c s]?=some s:=by
 have hl:=z9m.2 h
 rw [List.getElem?_eq_getElem hl]
 have:decide (c[z2r c s]=s)=true:=List.findIdx_getElem (xs:=c) (p:=fun y=>decide (y=s)) (w:=hl)
 rw [of_decide_eq_true this]
theorem z1pg {k:Nat} (hk:KK≤k) {a b:List Int} (ha:a.length≤1000000000):zmi k a b=some (decide (a=b)):=by
 have hK:=zg
 unfold zmi
 by_cases hl:a.length=b.length
 ·rw [decide_eq_true (show (a.length:Int)=(b.length:Int) by omega),if_neg (by simp)]
  refine zao (L:=fun n i=>zfc k n a b i (some true)) a b hl ?_ ?_ (n:=k) (by omega)
  ·intro n i x y hx hy hlt
   have hw:=zd (i:=i) (by omega)
   by_cases e:x=y <;> simp [zfc,hlt,hx,hy,hw,e]
  ·intro n
   simp [zfc]
 ·have h2:a≠b:=fun e=>hl (by rw [e])
  rw [decide_eq_false (show ¬ (a.length:Int)=(b.length:Int) by omega),if_pos (by simp),decide_eq_false h2]
theorem z17r {k:Nat} (hk:KK≤k) {c:Cx} (hc:z4z c) (s:List Int):zij k c s=some (if z2r c s<c.length then ((z2r c s:Nat):Int) else -1):=by
 have hK:=zg
 obtain ⟨h1,h2⟩:=hc
 unfold zij
 rw [zap (L:=fun m i=>zfd k m c s i (some (-1))) (p:=fun y=>decide (y=s)) c ?_ ?_ (n:=k) (by omega)]
 ·unfold zih z2r
  cases hf:c.findIdx? (fun y=>decide (y=s)) with
  | some i =>
   obtain ⟨hlt,hp⟩:=List.findIdx?_eq_some_iff_findIdx_eq.1 hf
   rw [hp,if_pos hlt]
  | none =>
   rw [List.findIdx?_eq_none_iff] at hf
   have:¬ c.findIdx (fun y=>decide (y=s))<c.length:=fun h=>by
    obtain ⟨x,hx,h2⟩:=List.findIdx_lt_length.1 h
    rw [hf x hx] at h2; cases h2
   rw [if_neg this]
 ·intro m i x hi hlt
  have hw:=zd (i:=i) (by omega)
  have hxl:=h2 x (List.mem_of_getElem? hi)
  simp only [zfd,hlt,decide_true,if_true,Int.natCast_nonneg,Int.toNat_natCast,hi,Option.bind_some,hw,z1pg hk (show x.length≤1000000000 by omega)]
 ·intro m
  simp [zfd]
theorem z17s (c:Cx) (s:List Int):decide ((if z2r c s<c.length then ((z2r c s:Nat):Int) else -1)<0)=!decide (s∈c):=by
 by_cases h:s∈c
 ·rw [if_pos (z9m.2 h),decide_eq_false (by omega),decide_eq_true h]; rfl
 ·rw [if_neg (fun h2=>h (z9m.1 h2)),decide_eq_false h]; rfl
theorem z1ph {k:Nat} (hk:KK≤k) {a b:List Int} (ha:a.length≤1048576) (hb:b.length≤1048576):zop k [a,b]=some (a++b):=by
 have hK:=zg
 have hL:=z1p
 obtain ⟨n,rfl⟩:∃ n,k=n+3:=⟨k-3,by omega⟩
 have w1:z6 (0+(a.length:Int))=(a.length:Int):=by rw [zf (by omega) (by omega)]; omega
 have w2:z6 ((a.length:Int)+(b.length:Int))=((a.length+b.length:Nat):Int):=by rw [zf (by omega) (by omega)]; omega
 have w3:z6 ((0:Int)+1)=1:=zf (by omega) (by omega)
 have w4:z6 ((1:Int)+1)=2:=zf (by omega) (by omega)
 have n1:¬ ((a.length:Int)<0):=by omega
 have n2:¬ (((a.length+b.length:Nat):Int)<0):=by omega
 have l1:(((a.length+b.length:Nat):Int).toNat)*8≤LIM:=by simp only [Int.toNat_natCast]; omega
 have l2:a.length*8≤LIM:=by omega
 have l3:(a.length+b.length)*8≤LIM:=by omega
 unfold zop
 simp only [zon,List.length_cons,List.length_nil,Nat.zero_add,Nat.reduceAdd,show ((2:Nat):Int)=2 from rfl,w1,w2,w3,w4]
 simp only [z13r,zoo,w1,w2,w3,w4,n1,n2,true_and,l1,l2,l3,Int.natCast_nonneg,List.nil_append,decide_false,Bool.false_eq_true,if_false,if_true,Option.bind_some,and_self,List.getElem?_cons_zero,List.getElem?_cons_succ,show decide ((0:Int)<2)=true from rfl,show decide ((1:Int)<2)=true from rfl,show decide ((2:Int)<2)=false from rfl,show (0:Int).toNat=0 from rfl,show (1:Int).toNat=1 from rfl,show (0:Int)≤0 from Int.le_refl _,show (0:Int)≤1 by omega,List.length_cons,List.length_nil,Nat.zero_add,Nat.reduceAdd,show ((2:Nat):Int)=2 from rfl]
def z21 (s:List Int):Cx:=if 1<s.length then (List.range s.length).map (zw s) else []
theorem z17t {k:Nat} (hk:KK≤k) {s:List Int} (hs:s.length≤1048576):zgf k s=some (z21 s):=by
 have hK:=zg
 have hL:=z1p
 unfold zgf
 have:=z29 (α:=Nat) (A:=Cx) (L:=fun n i q=>zd1 k n s (s.length:Int) i q (fun q_3=>some q_3)) (I:=fun pre q=>q=(if 1<s.length then (List.range pre.length).map (zw s) else [])) (G:=fun _ _=>some (z21 s)) (List.range s.length) ?_ ?_ k (by simp; omega) [] (by simp)
 ·exact this
 ·intro n pre x post q hx hq ih hg hlt
  rw [List.length_range] at hlt
  have hpl:pre.length<s.length:=by omega
  have hw:=zd (i:=pre.length) (by omega)
  simp only [zd1,hlt,decide_true,if_true]
  by_cases c:1<s.length
  ·rw [if_pos c] at hq
   have b1:(pre.length:Int)≤(s.length:Int):=by omega
   have b2:((pre.length+1:Nat):Int)≤(s.length:Int):=by omega
   have hdr:(s.drop (pre.length+1)).take (s.length-(pre.length+1))=s.drop (pre.length+1):=List.take_of_length_le (by rw [List.length_drop]; exact Nat.le_refl _)
   have hcc:=z1ph hk (a:=s.take pre.length) (b:=s.drop (pre.length+1)) (by rw [List.length_take]; omega) (by rw [List.length_drop]; omega)
   have hlim:(q.length+1)*24≤LIM:=by rw [hq,List.length_map,List.length_range]; omega
   rw [decide_eq_true (by omega),if_pos rfl]
   simp only [Int.natCast_nonneg,Int.le_refl,Int.toNat_natCast,b1,hw,b2,and_self,if_true,hdr,hcc,Option.bind_some,List.length_singleton,hlim]
   refine ih _ ?_
   rw [if_pos c,hq,List.length_append,List.length_singleton,List.range_succ,List.map_append]
   rfl
  ·rw [decide_eq_false (by omega),if_neg (by simp),hw]
   exact ih _ (by rw [if_neg c] at hq ⊢; exact hq)
 ·intro n q hq
  rw [List.length_range] at hq ⊢
  simp only [zd1,Int.lt_irrefl,decide_false,Bool.false_eq_true,if_false,hq]
  rfl
theorem zji {s f:List Int}:f∈z21 s↔1<s.length∧∃ k,k<s.length∧f=zw s k:=by
 unfold z21
 by_cases c:1<s.length
 ·rw [if_pos c,List.mem_map]
  constructor
  ·rintro ⟨k,hk,rfl⟩; exact ⟨c,k,List.mem_range.1 hk,rfl⟩
  ·rintro ⟨_,k,hk,rfl⟩; exact ⟨k,List.mem_range.2 hk,rfl⟩
 ·rw [if_neg c]; simp [c]
def z34 (c:Cx) (s:List Int):Nat:=c.findIdx (fun y=>!z1e y s)
theorem z1pi (c:Cx) (s:List Int):z34 c s≤c.length:=List.findIdx_le_length
theorem z17u {c:Cx} {s:List Int} {i:Nat} (h:i<z34 c s) (hi:i<c.length):z1e c[i] s=true:=by
 have:=List.not_of_lt_findIdx h
 simpa using this
theorem z17v {c:Cx} {s:List Int} (hs:c.Pairwise (fun a b=>z1e a b=true)) {i:Nat} (h:z34 c s≤i) (hi:i<c.length):z1e c[i] s=false:=by
 have hp:z34 c s<c.length:=by omega
 have h0:z1e c[z34 c s] s=false:=by
  have:=List.findIdx_getElem (xs:=c) (p:=fun y=>!z1e y s) (w:=hp)
  simp only [Bool.not_eq_true'] at this
  exact this
 by_cases e:i=z34 c s
 ·subst e; exact h0
 ·cases hb:z1e c[i] s
  ·rfl
  ·have h1:=List.pairwise_iff_getElem.1 hs (z34 c s) i hp hi (by omega)
   rw [zjh h1 hb] at h0; cases h0
theorem z1pj {c:Cx} (hs:c.Pairwise (fun a b=>z1e a b=true)) {s:List Int} (h:s∈c):z34 c s=z2r c s:=by
 have hl:=z9m.2 h
 have hg:=zdj h
 rw [List.getElem?_eq_getElem hl] at hg
 have hg:=Option.some.inj hg
 have h1:¬ z2r c s<z34 c s:=fun q=>by have:=z17u q hl; rw [hg,zpo] at this; cases this
 have h2:¬ z34 c s<z2r c s:=fun q=>by
  have h3:=List.pairwise_iff_getElem.1 hs (z34 c s) (z2r c s) (by omega) hl q
  rw [hg] at h3
  rw [z17v hs (Nat.le_refl _) (by omega)] at h3; cases h3
 omega
theorem z1pk {k:Nat} (hk:KK≤k) {c:Cx} (hc:z4z c) (hs:c.Pairwise (fun a b=>z1e a b=true)) {s:List Int} (hsl:s.length≤1048576) {e:Cx→List Int→Unit→Int→Int→Option (Int×Bool)} :
  ∀ (d:Nat) (i j n:Nat),j-i≤d→d<n→i≤z34 c s→z34 c s≤j→j≤c.length→zaz k n c s () (c.length:Int) (i:Int) (j:Int) e=e c s () (c.length:Int) ((z34 c s:Nat):Int):=by
 obtain ⟨hcl,hce⟩:=hc
 intro d
 induction d with
 | zero =>
  intro i j n h1 h2 h3 h4 h5
  obtain ⟨n,rfl⟩:∃ m,n=m+1:=⟨n-1,by omega⟩
  have hlt:¬ (i:Int)<(j:Int):=by omega
  simp only [zaz,hlt,decide_false,Bool.false_eq_true,if_false]
  rw [show i=z34 c s by omega]
 | succ d ih =>
  intro i j n h1 h2 h3 h4 h5
  obtain ⟨n,rfl⟩:∃ m,n=m+1:=⟨n-1,by omega⟩
  by_cases hij:i<j
  ·have hlt:(i:Int)<(j:Int):=by omega
   have hm:(i+j) / 2<c.length:=by omega
   have hw:=zd (i:=(i+j) / 2) (by omega)
   have hml:=hce c[(i+j) / 2] (List.getElem_mem hm)
   simp only [zaz,hlt,decide_true,if_true,z1pf (show i+j<4611686018427387904 by omega),Int.natCast_nonneg,Int.toNat_natCast,List.getElem?_eq_getElem hm,Option.bind_some,zpp hk (show (c[(i+j) / 2]).length≤1000000000 by omega) (show s.length≤1000000000 by omega),z17q,hw]
   by_cases hb:z1e c[(i+j) / 2] s=true
   ·rw [if_pos hb]
    refine ih _ _ _ (by omega) (by omega) ?_ h4 h5
    by_cases hq:z34 c s≤(i+j) / 2
    ·rw [z17v hs hq hm] at hb; cases hb
    ·omega
   ·rw [if_neg hb]
    refine ih _ _ _ (by omega) (by omega) h3 ?_ (by omega)
    by_cases hq:(i+j) / 2<z34 c s
    ·exact absurd (z17u hq hm) hb
    ·omega
  ·have hlt:¬ (i:Int)<(j:Int):=by omega
   simp only [zaz,hlt,decide_false,Bool.false_eq_true,if_false]
   rw [show i=z34 c s by omega]
theorem z17w {k:Nat} (hk:KK≤k) {c:Cx} (hc:z4z c) (hs:c.Pairwise (fun a b=>z1e a b=true)) {s:List Int} (hsl:s.length≤1048576):zj6 k c s=some (if z2r c s<c.length then ((z2r c s:Nat):Int) else -1):=by
 have hK:=zg
 have hcl:=hc.1
 have:=z1pi c s
 unfold zj6 zsr
 have h0:=z1pk hk hc hs hsl (e:=fun x_3 target_4 cmp_5 n_6 i_7=>(if (decide (i_7<n_6))=true then (if 0≤i_7 then (x_3[i_7.toNat]?).bind fun y_8=>(zd0 k y_8 target_4).bind fun r_9=>some (i_7,(decide (r_9=0))) else none) else some (i_7,false))) c.length 0 c.length k (by omega) (by omega) (by omega) (by omega) (by omega)
 rw [show ((0:Nat):Int)=0 from rfl] at h0
 rw [h0]
 by_cases h:s∈c
 ·have hp:=z1pj hs h
  have hl:=z9m.2 h
  have hg:=zdj h
  rw [hp,if_pos hl,decide_eq_true (by omega),if_pos rfl]
  simp only [Int.natCast_nonneg,if_true,Int.toNat_natCast,hg,Option.bind_some,zpp hk (show s.length≤1000000000 by omega) (show s.length≤1000000000 by omega)]
  have:z8f s s=0:=(z17p s s).2 rfl
  rw [this]; rfl
 ·rw [if_neg (fun q=>h (z9m.1 q))]
  by_cases hl:z34 c s<c.length
  ·have hxl:=hc.2 c[z34 c s] (List.getElem_mem hl)
   rw [decide_eq_true (by omega),if_pos rfl]
   simp only [Int.natCast_nonneg,if_true,Int.toNat_natCast,List.getElem?_eq_getElem hl,Option.bind_some,zpp hk (show (c[z34 c s]).length≤1000000000 by omega) (show s.length≤1000000000 by omega)]
   have:¬ z8f c[z34 c s] s=0:=fun e=>h (by rw [← (z17p _ _).1 e]; exact List.getElem_mem hl)
   rw [decide_eq_false this]; rfl
  ·rw [decide_eq_false (by omega),if_neg (by simp)]; rfl
open Classical in
noncomputable def z7h (c d:Cx) (i:Nat):Bool:=decide (∀ s,c[i]?=some s→SimpP s∧z7g (fun a b=>z1e a b=true) c i s∧(1<s.length→∀ k,k<s.length→zw s k∈d))
open Classical in
theorem z4g {c d:Cx} {i:Nat} {s:List Int} (h:c[i]?=some s):z7h c d i=true↔SimpP s∧z7g (fun a b=>z1e a b=true) c i s∧(1<s.length→∀ k,k<s.length→zw s k∈d):=by
 unfold z7h
 rw [decide_eq_true_eq]
 exact ⟨fun q=>q s h,fun q t ht=>by rw [h] at ht; cases ht; exact q⟩
open Classical in
theorem z1pl {k:Nat} (hk:KK≤k) {c:Cx} (hc:z4z c):zmj k c=some (cxB c):=by
 have hK:=zg
 obtain ⟨hcl,hce⟩:=hc
 unfold zmj
 by_cases h48:c.length≤48
 ·rw [decide_eq_false (by omega),if_neg (by simp)]
  have:=z4d (L:=fun n i=>z79 k n c i (some true)) (b:=c.length) (p:=fun i=>z7h c c i) (r:=some false) (e:=some true) ?_ ?_ (n:=k) (by omega)
  ·rw [this]
   have e:(List.range c.length).all (fun i=>z7h c c i)=true↔CxP c:=by
    rw [List.all_eq_true]
    constructor
    ·intro h
     have h':∀ i s,c[i]?=some s→SimpP s∧z7g (fun a b=>z1e a b=true) c i s∧(1<s.length→∀ k,k<s.length→zw s k∈c):=fun i s hs=>(z4g hs).1 (h i (List.mem_range.2 (List.getElem?_eq_some_iff.1 hs).1))
     refine ⟨h48,fun s hs=>?_,?_,fun s hs=>?_⟩
     ·obtain ⟨i,hi⟩:=List.getElem?_of_mem hs
      exact (h' i s hi).1
     ·have:=zpn (R:=fun a b=>z1e a b=true) (fun a b c=>zjh) (l:=c) (m:=c.length) (fun j hj x hx=>(h' j x hx).2.1)
      rwa [List.take_length] at this
     ·obtain ⟨i,hi⟩:=List.getElem?_of_mem hs
      exact (h' i s hi).2.2
    ·intro h i hi
     rw [List.mem_range] at hi
     exact (z4g (List.getElem?_eq_getElem hi)).2 ⟨h.simp _ (List.getElem_mem hi),zts h.ord (List.getElem?_eq_getElem hi),h.face _ (List.getElem_mem hi)⟩
   by_cases q:CxP c
   ·rw [if_pos (e.2 q),zb7.2 q]
   ·rw [if_neg (fun h=>q (e.1 h))]
    congr 1
    symm
    rw [Bool.eq_false_iff,ne_eq,zb7]; exact q
  ·intro n i hi
   have hlt:(i:Int)<(c.length:Int):=by omega
   have hw:=zd (i:=i) (by omega)
   have hg:c[i]?=some c[i]:=List.getElem?_eq_getElem hi
   have hsl:=hce c[i] (List.getElem_mem hi)
   have hin:z97 k k c (i:Int) c[i] 0 (fun c_5 i_6=>z79 k n c_5 (z6 (i_6+1)) (some true))=if (∀ k,1<(c[i]).length→k<(c[i]).length→zw c[i] k∈c) then z79 k n c ((i+1:Nat):Int) (some true) else some false:=by
    by_cases h1:1<(c[i]).length
    ·have:=z4d (L:=fun m j=>z97 k m c (i:Int) c[i] j (fun c_5 i_6=>z79 k n c_5 (z6 (i_6+1)) (some true))) (b:=(c[i]).length) (p:=fun j=>decide (zw c[i] j∈c)) (r:=some false) (e:=z79 k n c ((i+1:Nat):Int) (some true)) ?_ ?_ (n:=k) (by omega)
     ·rw [this]
      simp only [List.all_eq_true,List.mem_range,decide_eq_true_eq]
      by_cases q:∀ j,j<(c[i]).length→zw c[i] j∈c
      ·rw [if_pos q,if_pos (fun j _ hj=>q j hj)]
      ·rw [if_neg q,if_neg (fun h=>q fun j hj=>h j h1 hj)]
     ·intro m j hj
      have hjlt:(j:Int)<((c[i]).length:Int):=by omega
      have hw2:=zd (i:=j) (by omega)
      simp only [z97,hjlt,decide_true,if_true,decide_eq_true (show (1:Int)<((c[i]).length:Int) by omega),zpq hsl hj,Option.bind_some,z17r hk ⟨hcl,hce⟩,z17s,hw2]
      by_cases q:zw c[i] j∈c
      ·rw [decide_eq_true q]; simp
      ·rw [decide_eq_false q]; simp
     ·intro m
      simp only [z97,Int.lt_irrefl,decide_false,Bool.false_eq_true,if_false,hw]
    ·rw [if_pos (fun j h=>absurd h h1)]
     obtain ⟨m,hm⟩:∃ m,k=m+1:=⟨k-1,by omega⟩
     have hn1:¬ (1:Int)<((c[i]).length:Int):=by omega
     conv=>lhs; arg 2; rw [hm]
     simp only [z97,hn1,decide_false,Bool.false_eq_true,if_false,hw]
     split <;> rfl
   simp only [z79,hlt,decide_true,if_true,Int.natCast_nonneg,Int.toNat_natCast,hg,Option.bind_some,z1p7 hk (show (c[i]).length≤1000000000 by omega)]
   cases hsb:zb5 c[i] with
   | false =>
    have:¬ z7h c c i=true:=fun h=>by
     have:=zb6.2 ((z4g hg).1 h).1
     rw [hsb] at this; cases this
    rw [if_neg this]; simp
   | true =>
    have hsp:=zb6.1 hsb
    simp only [Bool.not_true,Bool.false_eq_true,if_false]
    by_cases h0:0<i
    ·have h0':(0:Int)<(i:Int):=by omega
     have hw1:z6 ((i:Int)-1)=((i-1:Nat):Int):=by rw [zf (by omega) (by omega)]; omega
     have hg1:c[i-1]?=some c[i-1]:=List.getElem?_eq_getElem (by omega)
     have hpl:=hce c[i-1] (List.getElem_mem (by omega))
     simp only [h0',decide_true,if_true,hw1,Int.natCast_nonneg,Int.toNat_natCast,hg1,Option.bind_some,z1pe hk (show (c[i-1]).length≤1000000000 by omega)]
     cases hbf:z1e c[i-1] c[i] with
     | false =>
      have:¬ z7h c c i=true:=fun h=>by
       have:z1e c[i-1] c[i]=true:=((z4g hg).1 h).2.1 h0 _ hg1
       rw [hbf] at this; cases this
      rw [if_neg this]; simp
     | true =>
      simp only [Bool.not_true,Bool.false_eq_true,if_false,hin]
      by_cases q:∀ k,1<(c[i]).length→k<(c[i]).length→zw c[i] k∈c
      ·rw [if_pos q,if_pos ((z4g hg).2 ⟨hsp,fun _ t ht=>by rw [hg1] at ht; cases ht; exact hbf,fun a b=>q b a⟩)]
      ·rw [if_neg q,if_neg (fun h=>q fun b a=>((z4g hg).1 h).2.2 a b)]
    ·have h0':¬ (0:Int)<(i:Int):=by omega
     simp only [h0',decide_false,Bool.false_eq_true,if_false,hin]
     by_cases q:∀ k,1<(c[i]).length→k<(c[i]).length→zw c[i] k∈c
     ·rw [if_pos q,if_pos ((z4g hg).2 ⟨hsp,fun h=>absurd h h0,fun a b=>q b a⟩)]
     ·rw [if_neg q,if_neg (fun h=>q fun b a=>((z4g hg).1 h).2.2 a b)]
  ·intro n
   simp only [z79,Int.lt_irrefl,decide_false,Bool.false_eq_true,if_false]
 ·rw [decide_eq_true (by omega),if_pos rfl]
  congr 1
  symm
  rw [Bool.eq_false_iff,ne_eq,zb7]
  exact fun h=>h48 h.len
theorem z1pm {c:Cx} (hc:z4z c) (i:Nat):z4z (c.take i):=⟨by rw [List.length_take]; have:=hc.1; omega,fun s hs=>hc.2 s (List.mem_of_mem_take hs)⟩
theorem z1pn {k:Nat} (hk:KK≤k) {c:Cx} (hc:z4z c) {i:Nat} (hi:i≤c.length) (hs:(c.take i).Pairwise (fun a b=>z1e a b=true)) {s:List Int} (hsl:s.length≤1048576):zj7 k (z21 s) (c,(i:Int))=some ((z21 s).any fun f=>!decide (f∈c.take i)):=by
 have hK:=zg
 have hcl:=hc.1
 have hfl:(z21 s).length≤1048576:=by
  unfold z21
  split
  ·rw [List.length_map,List.length_range]; exact hsl
  ·simp
 unfold zj7 zst
 rw [zap (L:=fun n j=>zgg k n (z21 s) (c,(i:Int)) ((z21 s).length:Int) j (some (-1))) (p:=fun f=>!decide (f∈c.take i)) (z21 s) ?_ ?_ (n:=k) (by omega)]
 ·rw [Option.bind_some,zde]
 ·intro n j f hj hlt
  have hw:=zd (i:=j) (by omega)
  have hf:f.length≤1048576:=by
   obtain ⟨_,q,hq,rfl⟩:=zji.1 (List.mem_of_getElem? hj)
   rw [z8g hq]; omega
  have b1:(i:Int)≤(c.length:Int):=by omega
  simp only [zgg,zss,hlt,decide_true,if_true,Int.natCast_nonneg,Int.le_refl,b1,and_self,Int.toNat_natCast,hj,Option.bind_some,z17w hk (z1pm hc i) hs hf,z17s,hw]
 ·intro n
  simp [zgg]
theorem zpr {s:List Int} {d:Cx}:((z21 s).any fun f=>!decide (f∈d))=false↔(1<s.length→∀ k,k<s.length→zw s k∈d):=by
 rw [List.any_eq_false]
 constructor
 ·intro h h1 k hk
  have:=h _ (zji.2 ⟨h1,k,hk,rfl⟩)
  simpa using this
 ·intro h f hf
  obtain ⟨h1,k,hk,rfl⟩:=zji.1 hf
  simpa using h h1 k hk
theorem z1po {k:Nat} (hk:KK≤k) {c:Cx} (hc:z4z c):zoq k c=some (cxB c):=by
 have hK:=zg
 obtain ⟨hcl,hce⟩:=hc
 unfold zoq
 have:=z1p6 (L:=fun n i=>zd2 k n c (c.length:Int) i c (fun v_9=>some (decide ((List.length v_9:Int)≤48)))) (b:=c.length) (p:=fun i=>z7h c (c.take i) i) (r:=some false) (e:=some (decide (c.length≤48))) ?_ ?_ (n:=k) (by omega)
 ·rw [this]
  have e:((List.range c.length).all (fun i=>z7h c (c.take i) i)=true∧c.length≤48)↔CxP c:=by
   rw [List.all_eq_true]
   constructor
   ·rintro ⟨h,h48⟩
    have h':∀ i s,c[i]?=some s→SimpP s∧z7g (fun a b=>z1e a b=true) c i s∧(1<s.length→∀ k,k<s.length→zw s k∈c.take i):=fun i s hs=>(z4g hs).1 (h i (List.mem_range.2 (List.getElem?_eq_some_iff.1 hs).1))
    refine ⟨h48,fun s hs=>?_,?_,fun s hs h1 k hk=>?_⟩
    ·obtain ⟨i,hi⟩:=List.getElem?_of_mem hs
     exact (h' i s hi).1
    ·have:=zpn (R:=fun a b=>z1e a b=true) (fun a b c=>zjh) (l:=c) (m:=c.length) (fun j hj x hx=>(h' j x hx).2.1)
     rwa [List.take_length] at this
    ·obtain ⟨i,hi⟩:=List.getElem?_of_mem hs
     exact List.mem_of_mem_take ((h' i s hi).2.2 h1 k hk)
   ·intro h
    refine ⟨fun i hi=>?_,h.len⟩
    rw [List.mem_range] at hi
    have hg:c[i]?=some c[i]:=List.getElem?_eq_getElem hi
    refine (z4g hg).2 ⟨h.simp _ (List.getElem_mem hi),zts h.ord hg,fun h1 k hk=>?_⟩
    have hm:=h.face _ (List.getElem_mem hi) h1 k hk
    obtain ⟨j,hj⟩:=List.getElem?_of_mem hm
    obtain ⟨hjl,hje⟩:=List.getElem?_eq_some_iff.1 hj
    have hji:j<i:=by
     by_cases q:j<i
     ·exact q
     ·have hb:z1e (zw c[i] k) c[i]=true:=by
       unfold z1e
       rw [z8g hk,decide_eq_true (by omega)]; rfl
      by_cases q2:j=i
      ·subst q2
       have:=zpo c[j]
       rw [← hje,zpo] at hb; cases hb
      ·have h3:=List.pairwise_iff_getElem.1 h.ord i j hi hjl (by omega)
       rw [hje,z1pb hb] at h3; cases h3
    rw [List.mem_take_iff_getElem]
    exact ⟨j,by omega,hje⟩
  by_cases q:CxP c
  ·obtain ⟨q1,q2⟩:=e.2 q
   rw [if_pos q1,decide_eq_true q2,zb7.2 q]
  ·have:cxB c=false:=by rw [Bool.eq_false_iff,ne_eq,zb7]; exact q
   rw [this]
   by_cases q1:(List.range c.length).all (fun i=>z7h c (c.take i) i)=true
   ·rw [if_pos q1,decide_eq_false (fun q2=>q (e.1 ⟨q1,q2⟩))]
   ·rw [if_neg q1]
 ·intro n i hi hpre
  have hlt:(i:Int)<(c.length:Int):=by omega
  have hw:=zd (i:=i) (by omega)
  have hg:c[i]?=some c[i]:=List.getElem?_eq_getElem hi
  have hsl:=hce c[i] (List.getElem_mem hi)
  have hsorted:(c.take i).Pairwise (fun a b=>z1e a b=true):=zpn (R:=fun a b=>z1e a b=true) (fun a b c=>zjh) (fun j hj x hx=>((z4g hx).1 (hpre j hj)).2.1)
  simp only [zd2,hlt,decide_true,if_true,Int.natCast_nonneg,Int.toNat_natCast,hg,Option.bind_some,z1p9 hk (show (c[i]).length≤1000000000 by omega),z17t hk hsl,z1pn hk ⟨hcl,hce⟩ (Nat.le_of_lt hi) hsorted hsl,hw]
  cases hsb:zb5 c[i] with
  | false =>
   have:¬ z7h c (c.take i) i=true:=fun h=>by
    have:=zb6.2 ((z4g hg).1 h).1
    rw [hsb] at this; cases this
   rw [if_neg this]; simp
  | true =>
   have hsp:=zb6.1 hsb
   simp only [Bool.not_true,Bool.false_eq_true,if_false]
   by_cases h0:0<i
   ·have h0':(0:Int)<(i:Int):=by omega
    have hw1:z6 ((i:Int)-1)=((i-1:Nat):Int):=by rw [zf (by omega) (by omega)]; omega
    have hg1:c[i-1]?=some c[i-1]:=List.getElem?_eq_getElem (by omega)
    have hpl:=hce c[i-1] (List.getElem_mem (by omega))
    simp only [h0',decide_true,if_true,hw1,Int.natCast_nonneg,Int.toNat_natCast,hg1,Option.bind_some,zpp hk (show (c[i-1]).length≤1000000000 by omega) (show (c[i]).length≤1000000000 by omega),z1pc]
    cases hbf:z1e c[i-1] c[i] with
    | false =>
     have:¬ z7h c (c.take i) i=true:=fun h=>by
      have:z1e c[i-1] c[i]=true:=((z4g hg).1 h).2.1 h0 _ hg1
      rw [hbf] at this; cases this
     rw [if_neg this]; simp
    | true =>
     simp only [Bool.not_true,Bool.false_eq_true,if_false]
     cases hq:(z21 c[i]).any fun f=>!decide (f∈c.take i) with
     | false =>
      rw [if_neg (by simp),if_pos ((z4g hg).2 ⟨hsp,fun _ t ht=>by rw [hg1] at ht; cases ht; exact hbf,zpr.1 hq⟩)]
     | true =>
      rw [if_pos rfl,if_neg (fun h=>by rw [zpr.2 ((z4g hg).1 h).2.2] at hq; cases hq)]
   ·have h0':¬ (0:Int)<(i:Int):=by omega
    simp only [h0',decide_false,Bool.false_eq_true,if_false]
    cases hq:(z21 c[i]).any fun f=>!decide (f∈c.take i) with
    | false =>
     rw [if_neg (by simp),if_pos ((z4g hg).2 ⟨hsp,fun h=>absurd h h0,zpr.1 hq⟩)]
    | true =>
     rw [if_pos rfl,if_neg (fun h=>by rw [zpr.2 ((z4g hg).1 h).2.2] at hq; cases hq)]
 ·intro n
  have e2:decide ((c.length:Int)≤48)=decide (c.length≤48):=decide_eq_decide.2 (by omega)
  simp only [zd2,Int.lt_irrefl,decide_false,Bool.false_eq_true,if_false,e2]
abbrev She:=Cx×Int×List Int×List Mat
def ofC (c:Cx) (d:Int):List Nat:=(List.range c.length).filter fun i=>match c[i]? with | some s=>decide ((s.length:Int)=d+1) | none=>false
theorem z8h {c:Cx} {d:Int} {i:Nat} (h:i∈ofC c d):i<c.length:=List.mem_range.1 (List.mem_filter.1 h).1
theorem z9n (c:Cx) (d:Int):(ofC c d).length≤c.length:=by
 unfold ofC
 exact Nat.le_trans (List.length_filter_le ..) (by rw [List.length_range]; exact Nat.le_refl _)
theorem zjj (f:Nat→Bool) (n:Nat):(List.range (n+1)).filter f=(List.range n).filter f++(if f n=true then [n] else []):=by
 rw [List.range_succ,List.filter_append,List.filter_cons,List.filter_nil]
theorem zjk {k:Nat} (hk:KK≤k) {c:Cx} (hc:z4z c) {d:Int} (hd : -1000≤d∧d≤1000):zfr k c d=some ((ofC c d).map fun i:Nat=>(i:Int)):=by
 have hK:=zg
 have hL:=z1p
 obtain ⟨hcl,hce⟩:=hc
 have hwd:z6 (d+1)=d+1:=zf (by omega) (by omega)
 unfold zfr
 have:=z29 (α:=List Int) (A:=List Int) (L:=fun n i q=>zcf k n c d i q (fun q_4=>some q_4)) (I:=fun pre q=>q=((List.range pre.length).filter fun i=>match c[i]? with | some s=>decide ((s.length:Int)=d+1) | none=>false).map fun i:Nat=>(i:Int)) (G:=fun _ _=>some ((ofC c d).map fun i:Nat=>(i:Int))) c ?_ ?_ k (by omega) [] (by simp)
 ·exact this
 ·intro n pre x post q hx hq ih hg hlt
  have hw:=zd (i:=pre.length) (by omega)
  have hql:q.length≤pre.length:=by rw [hq,List.length_map]; exact Nat.le_trans (List.length_filter_le ..) (by rw [List.length_range]; exact Nat.le_refl _)
  have hlim:(q.length+1)*8≤LIM:=by omega
  simp only [zcf,hlt,decide_true,if_true,Int.natCast_nonneg,Int.toNat_natCast,hg,Option.bind_some,hw,hwd,List.length_singleton,hlim]
  by_cases hb:(x.length:Int)=d+1
  ·rw [decide_eq_true hb,if_pos rfl]
   refine ih _ ?_
   rw [List.length_append,List.length_singleton,zjj,hg]
   simp only [hb,decide_true,if_true,List.map_append,hq,List.map_cons,List.map_nil]
  ·rw [decide_eq_false hb,if_neg (by simp)]
   refine ih _ ?_
   rw [List.length_append,List.length_singleton,zjj,hg]
   simp only [hb,decide_false,Bool.false_eq_true,if_false,List.append_nil,hq]
 ·intro n q hq
  simp only [zcf,Int.lt_irrefl,decide_false,Bool.false_eq_true,if_false,hq]
  rfl
theorem zh2 {k:Nat} (hk:KK≤k) {c:Cx} (hc:z4z c) {d:Int} (hd : -1000≤d∧d≤1000):zca k c d=some ((ofC c d).map fun i:Nat=>(i:Int)):=by
 have hK:=zg
 have hL:=z1p
 obtain ⟨hcl,hce⟩:=hc
 have hwd:z6 (d+1)=d+1:=zf (by omega) (by omega)
 unfold zca
 have:=z29 (α:=List Int) (A:=List Int) (L:=fun n i q=>zd3 k n d c (c.length:Int) i q (fun q_4=>some q_4)) (I:=fun pre q=>q=((List.range pre.length).filter fun i=>match c[i]? with | some s=>decide ((s.length:Int)=d+1) | none=>false).map fun i:Nat=>(i:Int)) (G:=fun _ _=>some ((ofC c d).map fun i:Nat=>(i:Int))) c ?_ ?_ k (by omega) [] (by simp)
 ·exact this
 ·intro n pre x post q hx hq ih hg hlt
  have hw:=zd (i:=pre.length) (by omega)
  have hql:q.length≤pre.length:=by rw [hq,List.length_map]; exact Nat.le_trans (List.length_filter_le ..) (by rw [List.length_range]; exact Nat.le_refl _)
  have hlim:(q.length+1)*8≤LIM:=by omega
  simp only [zd3,z88,hlt,decide_true,if_true,Int.natCast_nonneg,Int.toNat_natCast,hg,Option.bind_some,hw,hwd,List.length_singleton,hlim]
  by_cases hb:(x.length:Int)=d+1
  ·rw [decide_eq_true hb,if_pos rfl]
   refine ih _ ?_
   rw [List.length_append,List.length_singleton,zjj,hg]
   simp only [hb,decide_true,if_true,List.map_append,hq,List.map_cons,List.map_nil]
  ·rw [decide_eq_false hb,if_neg (by simp)]
   refine ih _ ?_
   rw [List.length_append,List.length_singleton,zjj,hg]
   simp only [hb,decide_false,Bool.false_eq_true,if_false,List.append_nil,hq]
 ·intro n q hq
  simp only [zd3,Int.lt_irrefl,decide_false,Bool.false_eq_true,if_false,hq]
  rfl
structure StP (c:Cx) (st:List Int):Prop where
 len:st.length=c.length
 val:∀ x∈st,0≤x∧x≤3
def zh (st:List Int) (l:List Nat):Int:=(l.map fun i=>st.getD i 0).sum
theorem zps (st:List Int) (l:List Nat) (i:Nat):zh st (l++[i])=zh st l+st.getD i 0:=by unfold zh; simp
theorem z7i {c:Cx} {st:List Int} (h:StP c st) {i:Nat} (hi:i<c.length):st[i]?=some (st.getD i 0)∧0≤st.getD i 0∧st.getD i 0≤3:=by
 have hl:i<st.length:=by rw [h.len]; exact hi
 have e:st.getD i 0=st[i]:=by rw [List.getD_eq_getElem?_getD,List.getElem?_eq_getElem hl]; rfl
 rw [e]
 exact ⟨List.getElem?_eq_getElem hl,h.val _ (List.getElem_mem hl)⟩
theorem z9o {c:Cx} {st:List Int} (h:StP c st):∀ (l:List Nat),(∀ i∈l,i<c.length)→0≤zh st l∧zh st l≤3*l.length
 | [],_=>by simp [zh]
 | i::l,hl=>by
  have ih:=z9o h l (fun j hj=>hl j (by simp [hj]))
  have:=z7i h (hl i (by simp))
  have e:zh st (i::l)=st.getD i 0+zh st l:=by unfold zh; simp
  rw [e,List.length_cons]
  omega
theorem z9p {k:Nat} (hk:KK≤k) {c:Cx} (hc:z4z c) {st:List Int} (h:StP c st) {d:Int} (hd : -1000≤d∧d≤1000):zat k c st d=some (zh st (ofC c d)):=by
 have hK:=zg
 have hol:=z9n c d
 have hcl:=hc.1
 unfold zat
 rw [zjk hk hc hd]
 simp only [Option.bind_some]
 have:=z29 (α:=Nat) (A:=Int) (L:=fun n i z=>zfs k n st z i ((ofC c d).map fun i:Nat=>(i:Int)) (fun z=>some z)) (I:=fun pre z=>z=zh st pre) (G:=fun _ _=>some (zh st (ofC c d))) (ofC c d) ?_ ?_ k (by omega) 0 rfl
 ·exact this
 ·intro n pre x post z hx hz ih hg hlt
  have hw:=zd (i:=pre.length) (by omega)
  have hxc:x<c.length:=z8h (by rw [hx]; simp:x∈ofC c d)
  have hF:((ofC c d).map fun i:Nat=>(i:Int))[pre.length]?=some (x:Int):=by rw [List.getElem?_map,hg]; rfl
  have hpl:pre.length<(ofC c d).length:=by omega
  obtain ⟨s1,s2,s3⟩:=z7i h hxc
  have hb:=z9o h pre (fun j hj=>z8h (by rw [hx]; simp [hj]:j∈ofC c d))
  have hwz:z6 (z+st.getD x 0)=z+st.getD x 0:=zf (by omega) (by omega)
  simp only [zfs,List.length_map,hlt,hpl,decide_true,if_true,Int.natCast_nonneg,Int.toNat_natCast,and_self,hF,s1,Option.bind_some,hw,hwz]
  exact ih _ (by rw [zps,hz])
 ·intro n z hz
  simp only [zfs,List.length_map,Int.lt_irrefl,decide_false,Bool.false_eq_true,if_false,hz]
theorem z9q {k:Nat} (hk:KK≤k) {s:She} (hc:z4z s.1) (h:StP s.1 s.2.2.1) {d:Int} (hd : -1000≤d∧d≤1000):zb0 k s d=some (zh s.2.2.1 (ofC s.1 d)):=by
 have hK:=zg
 have hol:=z9n s.1 d
 have hcl:=hc.1
 unfold zb0
 rw [zh2 hk hc hd]
 simp only [Option.bind_some,List.length_map]
 have:=z29 (α:=Nat) (A:=Int) (L:=fun n i z=>zgj k n z ((ofC s.1 d).length:Int) i ((ofC s.1 d).map fun i:Nat=>(i:Int)) s (fun z=>some z)) (I:=fun pre z=>z=zh s.2.2.1 pre) (G:=fun _ _=>some (zh s.2.2.1 (ofC s.1 d))) (ofC s.1 d) ?_ ?_ k (by omega) 0 rfl
 ·exact this
 ·intro n pre x post z hx hz ih hg hlt
  have hw:=zd (i:=pre.length) (by omega)
  have hxc:x<s.1.length:=z8h (by rw [hx]; simp:x∈ofC s.1 d)
  have hF:((ofC s.1 d).map fun i:Nat=>(i:Int))[pre.length]?=some (x:Int):=by rw [List.getElem?_map,hg]; rfl
  have hpl:pre.length<(ofC s.1 d).length:=by omega
  obtain ⟨s1,s2,s3⟩:=z7i h hxc
  have hb:=z9o h pre (fun j hj=>z8h (by rw [hx]; simp [hj]:j∈ofC s.1 d))
  have hwz:z6 (z+s.2.2.1.getD x 0)=z+s.2.2.1.getD x 0:=zf (by omega) (by omega)
  simp only [zgj,List.length_map,hlt,hpl,decide_true,if_true,Int.natCast_nonneg,Int.toNat_natCast,and_self,hF,s1,Option.bind_some,hw,hwz]
  exact ih _ (by rw [zps,hz])
 ·intro n z hz
  simp only [zgj,Int.lt_irrefl,decide_false,Bool.false_eq_true,if_false,hz]
noncomputable instance stP_dec (c:Cx) (st:List Int):Decidable (StP c st):=Classical.propDecidable _
noncomputable def stB (c:Cx) (st:List Int):Bool:=decide (StP c st)&&(List.range 4).all fun d=>decide (zh st (ofC c (d:Int))≤32)
theorem ztv {c:Cx} {st:List Int} (h:stB c st=true):StP c st:=by
 unfold stB at h
 rw [Bool.and_eq_true,decide_eq_true_eq] at h
 exact h.1
theorem z17x {c:Cx} {st:List Int}:(st.all (fun x=>decide (0≤x∧x≤4-1))&&decide ((st.length:Int)=(c.length:Int)))=true↔StP c st:=by
 simp only [Bool.and_eq_true,List.all_eq_true,decide_eq_true_eq]
 exact ⟨fun h=>⟨by omega,fun x hx=>by have:=h.1 x hx; omega⟩,fun h=>⟨fun x hx=>by have:=h.val x hx; omega,by have:=h.len; omega⟩⟩
theorem z1pp {k:Nat} (hk:KK≤k) {c:Cx} (hc:z4z c) {st:List Int} (hs:st.length≤1048576):zng k c st=some (stB c st):=by
 have hK:=zg
 unfold zng
 rw [zjc hk hs _ (by omega)]
 simp only [Option.bind_some]
 by_cases h:StP c st
 ·rw [z17x.2 h]
  simp only [Bool.not_true,Bool.false_eq_true,if_false]
  have:=z4d (L:=fun n i=>zft k n c st i (some true)) (b:=4) (p:=fun d:Nat=>decide (zh st (ofC c (d:Int))≤32)) (r:=some false) (e:=some true) ?_ ?_ (n:=k) (by omega)
  ·rw [this]
   unfold stB
   rw [decide_eq_true h,Bool.true_and]
   cases (List.range 4).all fun d=>decide (zh st (ofC c (d:Int))≤32) <;> rfl
  ·intro n i hi
   have hlt:(i:Int)≤3:=by omega
   have hw:=zd (i:=i) (by omega)
   simp only [zft,hlt,decide_true,if_true,z9p hk hc h (d:=(i:Int)) (by omega),Option.bind_some,hw]
   by_cases c1:zh st (ofC c (i:Int))≤32
   ·rw [decide_eq_true c1,decide_eq_false (by omega),if_neg (by simp),if_pos rfl]
   ·rw [decide_eq_false c1,decide_eq_true (by omega),if_pos rfl,if_neg (by simp)]
  ·intro n
   have:¬ (((4:Nat):Int)≤3):=by omega
   simp only [zft,this,decide_false,Bool.false_eq_true,if_false]
 ·have h2:(st.all (fun x=>decide (0≤x∧x≤4-1))&&decide ((st.length:Int)=(c.length:Int)))=false:=by rw [Bool.eq_false_iff,ne_eq,z17x]; exact h
  rw [h2,if_pos (by simp)]
  unfold stB
  rw [decide_eq_false h]; rfl
theorem z1pq {k:Nat} (hk:KK≤k) {c:Cx} (hc:z4z c) {st:List Int} (hs:st.length≤1048576):zos k c st=some (stB c st):=by
 have hK:=zg
 have hcf:zor k st ()=some (st.any fun x=>!decide (0≤x∧x≤3)):=by
  unfold zor zsv
  rw [zap (L:=fun n i=>zgi k n st () (st.length:Int) i (some (-1))) (p:=fun x=>!decide (0≤x∧x≤3)) st ?_ ?_ (n:=k) (by omega)]
  ·rw [Option.bind_some,zde]
  ·intro n i x hi hlt
   have hw:=zd (i:=i) (by omega)
   simp only [zgi,zsu,z6l,hlt,decide_true,if_true,Int.natCast_nonneg,Int.toNat_natCast,hi,Option.bind_some,hw]
  ·intro n
   simp [zgi]
 unfold zos
 rw [hcf]
 simp only [Option.bind_some]
 by_cases hl:st.length=c.length
 ·rw [decide_eq_true (show (st.length:Int)=(c.length:Int) by omega),if_neg (by simp)]
  by_cases hv:∀ x∈st,0≤x∧x≤3
  ·have h:StP c st:=⟨hl,hv⟩
   have ha:(st.any fun x=>!decide (0≤x∧x≤3))=false:=by
    rw [List.any_eq_false]; intro x hx; simp [hv x hx]
   rw [ha,if_neg (by simp)]
   have:=z4d (L:=fun n i=>zgk k n st i c (some true)) (b:=4) (p:=fun d:Nat=>decide (zh st (ofC c (d:Int))≤32)) (r:=some false) (e:=some true) ?_ ?_ (n:=k) (by omega)
   ·rw [this]
    unfold stB
    rw [decide_eq_true h,Bool.true_and]
    cases (List.range 4).all fun d=>decide (zh st (ofC c (d:Int))≤32) <;> rfl
   ·intro n i hi
    have hlt:(i:Int)<4:=by omega
    have hw:=zd (i:=i) (by omega)
    have hst:=z9q hk (s:=(c,0,st,[])) hc h (d:=(i:Int)) (by omega)
    simp only at hst
    simp only [zgk,hlt,decide_true,if_true,hst,Option.bind_some,hw]
    by_cases c1:zh st (ofC c (i:Int))≤32
    ·rw [decide_eq_true c1,decide_eq_false (by omega),if_neg (by simp),if_pos rfl]
    ·rw [decide_eq_false c1,decide_eq_true (by omega),if_pos rfl,if_neg (by simp)]
   ·intro n
    have:¬ (((4:Nat):Int)<4):=by omega
    simp only [zgk,this,decide_false,Bool.false_eq_true,if_false]
  ·have ha:(st.any fun x=>!decide (0≤x∧x≤3))=true:=by
    rw [List.any_eq_true]
    apply Classical.byContradiction
    intro hn
    apply hv
    intro x hx
    apply Classical.byContradiction
    intro hx2
    exact hn ⟨x,hx,by simp only [Bool.not_eq_true',decide_eq_false_iff_not]; exact hx2⟩
   rw [ha,if_pos rfl]
   unfold stB
   rw [decide_eq_false (fun h:StP c st=>hv h.val)]; rfl
 ·rw [decide_eq_false (show ¬ (st.length:Int)=(c.length:Int) by omega),if_pos (by simp)]
  unfold stB
  rw [decide_eq_false (fun h:StP c st=>hl h.len)]; rfl
def ze (c:Cx) (s:List Int):List Nat:=(z21 s).map (z2r c)
theorem z17y (s:List Int):(z21 s).length=if 1<s.length then s.length else 0:=by
 unfold z21
 split
 ·rw [List.length_map,List.length_range]
 ·rfl
theorem z8i (c:Cx) (s:List Int):(ze c s).length=if 1<s.length then s.length else 0:=by unfold ze; rw [List.length_map,z17y]
theorem z17z {c:Cx} (h:CxP c) {s:List Int} (hs:s∈c) {f:Nat} (hf:f∈ze c s):f<c.length:=by
 unfold ze at hf
 obtain ⟨g,hg,rfl⟩:=List.mem_map.1 hf
 obtain ⟨h1,j,hj,rfl⟩:=zji.1 hg
 exact z9m.2 (h.face s hs h1 j hj)
theorem z2k {c:Cx} (h:CxP c):z4z c:=⟨by have:=h.len; omega,fun s hs=>by have:=(h.simp s hs).len4; omega⟩
theorem zpt {k:Nat} (hk:KK≤k) {c:Cx} (h:CxP c) {j:Nat} {s:List Int} (hj:c[j]?=some s):zfv k c (j:Int)=some ((ze c s).map fun i:Nat=>(i:Int)):=by
 have hK:=zg
 have hL:=z1p
 have hm:=List.mem_of_getElem? hj
 have hs4:=(h.simp s hm).len4
 have hsc:=z2k h
 unfold zfv
 rw [if_pos (Int.natCast_nonneg _),Int.toNat_natCast,hj]
 simp only [Option.bind_some]
 by_cases c1:1<s.length
 ·have:=z29 (α:=Nat) (A:=List Int) (L:=fun n i q=>zch k n c s i q (fun q_5=>some q_5)) (I:=fun pre q=>q=(List.range pre.length).map fun i=>((z2r c (zw s i):Nat):Int)) (G:=fun _ _=>some ((ze c s).map fun i:Nat=>(i:Int))) (List.range s.length) ?_ ?_ k (by simp; omega) [] (by simp)
  ·exact this
  ·intro n pre x post q hx hq ih hg hlt
   rw [List.length_range] at hlt
   have hpl:pre.length<s.length:=by omega
   have hw:=zd (i:=pre.length) (by omega)
   have hlim:(q.length+1)*8≤LIM:=by rw [hq,List.length_map,List.length_range]; omega
   have hin:=h.face s hm c1 pre.length hpl
   have c1':(1:Int)<(s.length:Int):=by omega
   simp only [zch,hlt,c1',decide_true,if_true,zpq (show s.length≤1048576 by omega) hpl,z17r hk hsc,z9m.2 hin,Option.bind_some,List.length_singleton,hlim,hw]
   refine ih _ ?_
   rw [hq,List.length_append,List.length_singleton,List.range_succ,List.map_append]
   rfl
  ·intro n q hq
   rw [List.length_range] at hq ⊢
   simp only [zch,Int.lt_irrefl,decide_false,Bool.false_eq_true,if_false,hq]
   unfold ze z21
   rw [if_pos c1,List.map_map,List.map_map]
   rfl
 ·obtain ⟨n,hn⟩:∃ n,k=n+1:=⟨k-1,by omega⟩
  have c1':¬ (1:Int)<(s.length:Int):=by omega
  conv=>lhs; arg 2; rw [hn]
  simp only [zch,c1',decide_false,Bool.false_eq_true,if_false]
  unfold ze z21
  rw [if_neg c1]
  split <;> rfl
theorem zb8 {k:Nat} (hk:KK≤k) {c:Cx} (h:CxP c) {j:Nat} {s:List Int} (hj:c[j]?=some s):z9i k c (j:Int)=some ((ze c s).map fun i:Nat=>(i:Int)):=by
 have hK:=zg
 have hL:=z1p
 have hm:=List.mem_of_getElem? hj
 have hs4:=(h.simp s hm).len4
 have hsc:=z2k h
 have hfl:=z17y s
 have hfl':(z21 s).length≤4:=by rw [hfl]; split <;> omega
 unfold z9i
 rw [if_pos (Int.natCast_nonneg _),Int.toNat_natCast,hj]
 simp only [Option.bind_some,z17t hk (show s.length≤1048576 by omega)]
 have:=z29 (α:=List Int) (A:=List Int) (L:=fun n i q=>zgl k n ((z21 s).length:Int) i q (z21 s) c (fun q_8=>some q_8)) (I:=fun pre q=>q=pre.map fun f=>((z2r c f:Nat):Int)) (G:=fun _ _=>some ((ze c s).map fun i:Nat=>(i:Int))) (z21 s) ?_ ?_ k (by omega) [] rfl
 ·exact this
 ·intro n pre x post q hx hq ih hg hlt
  have hpl:pre.length<(z21 s).length:=by omega
  have hw:=zd (i:=pre.length) (by omega)
  have hlim:(q.length+1)*8≤LIM:=by rw [hq,List.length_map]; omega
  obtain ⟨h1,i,hi,rfl⟩:=zji.1 (List.mem_of_getElem? hg)
  have hin:=h.face s hm h1 i hi
  simp only [zgl,hlt,hpl,decide_true,if_true,Int.natCast_nonneg,Int.toNat_natCast,and_self,hg,z17w hk hsc h.ord (show (zw s i).length≤1048576 by rw [z8g hi]; omega),z9m.2 hin,Option.bind_some,List.length_singleton,hlim,hw]
  exact ih _ (by rw [hq,List.map_append]; rfl)
 ·intro n q hq
  simp only [zgl,Int.lt_irrefl,decide_false,Bool.false_eq_true,if_false,hq]
  unfold ze
  rw [List.map_map]
  rfl
def z3k (c:Cx) (j:Nat):List (Nat×Nat×Nat):=match c[j]? with
 | some s=>(List.range (ze c s).length).map fun i=>(j,i,(ze c s).getD i 0)
 | none=>[]
def zm (c:Cx) (n:Nat):List (Nat×Nat×Nat):=(List.range n).flatMap (z3k c)
theorem zdk (c:Cx) (n:Nat):zm c (n+1)=zm c n++z3k c n:=by unfold zm; rw [List.range_succ,List.flatMap_append]; simp
theorem zpu {c:Cx} {j:Nat} {s:List Int} (hj:c[j]?=some s):(z3k c j).length=if 1<s.length then s.length else 0:=by
 unfold z3k; rw [hj]; simp only [List.length_map,List.length_range,z8i]
theorem z180 {c:Cx} {j i:Nat} {s:List Int} (hj:c[j]?=some s) (hi:i<(ze c s).length):(z3k c j)[i]?=some (j,i,(ze c s).getD i 0):=by
 unfold z3k; rw [hj]; simp only [List.getElem?_map,List.getElem?_range hi]; rfl
theorem z9r {c:Cx} (h:CxP c):∀ n,n≤c.length→(zm c n).length≤4*n
 | 0,_=>by simp [zm]
 | n+1,hn=>by
  have ih:=z9r h n (by omega)
  have hg:c[n]?=some c[n]:=List.getElem?_eq_getElem (by omega)
  have h4:=(h.simp _ (List.mem_of_getElem? hg)).len4
  rw [zdk,List.length_append,zpu hg]
  split <;> omega
theorem z1pr (c:Cx) {a b:Nat} (h:a≤b):(zm c a).length≤(zm c b).length:=by
 induction b with
 | zero=>rw [show a=0 by omega]; exact Nat.le_refl _
 | succ b ih =>
  by_cases e:a=b+1
  ·rw [e]; exact Nat.le_refl _
  ·have:=ih (by omega)
   rw [zdk,List.length_append]; omega
theorem ztw {k:Nat} (hk:KK≤k) {c:Cx} (h:CxP c) {j i:Nat} (hj:j≤c.length) (hi:i≤4):zfu k c (j:Int) (i:Int)=some (((zm c j).length+i:Nat):Int):=by
 have hK:=zg
 have hcl:=h.len
 unfold zfu
 have:=z29 (α:=Nat) (A:=Int) (L:=fun n p z=>zcg k n c (j:Int) (i:Int) z p (fun i_3 at_4=>some (z6 (at_4+i_3)))) (I:=fun pre z=>z=((zm c pre.length).length:Int)) (G:=fun _ _=>some (((zm c j).length+i:Nat):Int)) (List.range j) ?_ ?_ k (by simp; omega) 0 rfl
 ·exact this
 ·intro n pre x post z hx hz ih hg hlt
  rw [List.length_range] at hlt
  have hpl:pre.length<c.length:=by omega
  have hw:=zd (i:=pre.length) (by omega)
  have hgc:c[pre.length]?=some c[pre.length]:=List.getElem?_eq_getElem hpl
  have h4:=(h.simp _ (List.mem_of_getElem? hgc)).len4
  have hal:=z9r h pre.length (by omega)
  have hnx:(zm c (pre.length+1)).length=(zm c pre.length).length+(if 1<(c[pre.length]).length then (c[pre.length]).length else 0):=by rw [zdk,List.length_append,zpu hgc]
  simp only [zcg,hlt,decide_true,if_true,Int.natCast_nonneg,Int.toNat_natCast,hgc,Option.bind_some,hw]
  by_cases c1:1<(c[pre.length]).length
  ·have hwz:z6 (z+((c[pre.length]).length:Int))=z+((c[pre.length]).length:Int):=zf (by omega) (by omega)
   rw [decide_eq_true (by omega),if_pos rfl,hwz]
   refine ih _ ?_
   rw [if_pos c1] at hnx
   rw [List.length_append,List.length_singleton,hnx,hz]; rfl
  ·rw [decide_eq_false (by omega),if_neg (by simp)]
   refine ih _ ?_
   rw [if_neg c1] at hnx
   rw [List.length_append,List.length_singleton,hnx,hz]; rfl
 ·intro n z hz
  rw [List.length_range] at hz ⊢
  have hal:=z9r h j hj
  have hwz:z6 (z+(i:Int))=(((zm c j).length+i:Nat):Int):=by rw [zf (by omega) (by omega)]; omega
  simp only [zcg,Int.lt_irrefl,decide_false,Bool.false_eq_true,if_false,hwz]
def z6o (a:Nat×Nat×Nat):Int×Int×Int:=((a.1:Int),(a.2.1:Int),(a.2.2:Int))
theorem z1ps {k:Nat} (hk:KK≤k) {c:Cx} (h:CxP c):zot k c=some ((zm c c.length).map z6o):=by
 have hK:=zg
 have hL:=z1p
 have hcl:=h.len
 unfold zot zsx
 simp only [Option.bind_some]
 have:=z29 (α:=List Int) (A:=List (Int×Int×Int)) (L:=fun n i q=>zgm k n (c.length:Int) i q c (fun q_8=>some q_8)) (I:=fun pre q=>q=(zm c pre.length).map z6o) (G:=fun _ _=>some ((zm c c.length).map z6o)) c ?_ ?_ k (by omega) [] rfl
 ·exact this
 ·intro n pre x post q hx hq ih hg hlt
  have hw:=zd (i:=pre.length) (by omega)
  have hpl:pre.length<c.length:=by omega
  have h4:=(h.simp _ (List.mem_of_getElem? hg)).len4
  have hal:=z9r h pre.length (by omega)
  have hfl:=z8i c x
  have hfl4:(ze c x).length≤4:=by rw [hfl]; split <;> omega
  simp only [zgm,hlt,decide_true,if_true,zb8 hk h hg,Option.bind_some,List.length_map]
  have inner:∀ E:Int→Int→List (Int×Int×Int)→Cx→Option (List (Int×Int×Int)),zd4 k k (pre.length:Int) (c.length:Int) (pre.length:Int) ((ze c x).length:Int) 0 q ((ze c x).map fun i:Nat=>(i:Int)) c E=E (c.length:Int) (pre.length:Int) ((zm c (pre.length+1)).map z6o) c:=by
   intro E
   have:=z29 (α:=Nat) (A:=List (Int×Int×Int)) (L:=fun n i r=>zd4 k n (pre.length:Int) (c.length:Int) (pre.length:Int) ((ze c x).length:Int) i r ((ze c x).map fun i:Nat=>(i:Int)) c E) (I:=fun pre2 r=>r=((zm c pre.length)++(List.range pre2.length).map fun i=>(pre.length,i,(ze c x).getD i 0)).map z6o) (G:=fun _ _=>E (c.length:Int) (pre.length:Int) ((zm c (pre.length+1)).map z6o) c) (ze c x) ?_ ?_ k (by omega) q (by simp [hq])
   ·exact this
   ·intro n pre2 f post2 r hx2 hr ih2 hg2 hlt2
    have hpl2:pre2.length<(ze c x).length:=by omega
    have hw2:=zd (i:=pre2.length) (by omega)
    have hF:((ze c x).map fun i:Nat=>(i:Int))[pre2.length]?=some (f:Int):=by rw [List.getElem?_map,hg2]; rfl
    have hlim:(r.length+1)*24≤LIM:=by rw [hr,List.length_map,List.length_append,List.length_map,List.length_range]; omega
    have hgd:(ze c x).getD pre2.length 0=f:=by rw [List.getD_eq_getElem?_getD,hg2]; rfl
    simp only [zd4,List.length_map,hlt2,hpl2,decide_true,if_true,Int.natCast_nonneg,Int.toNat_natCast,and_self,hF,Option.bind_some,List.length_singleton,hlim,hw2]
    refine ih2 _ ?_
    rw [hr,List.length_append,List.length_singleton,List.range_succ,List.map_append (l₁:=List.range pre2.length),← List.append_assoc,List.map_append (f:=z6o) (l₁:=zm c pre.length++_)]
    show _=_++[z6o (pre.length,pre2.length,(ze c x).getD pre2.length 0)]
    rw [hgd]; rfl
   ·intro n r hr
    have e:z3k c pre.length=(List.range (ze c x).length).map fun i=>(pre.length,i,(ze c x).getD i 0):=by unfold z3k; rw [hg]
    simp only [zd4,Int.lt_irrefl,decide_false,Bool.false_eq_true,if_false,hr]
    rw [zdk,e]
  rw [inner,hw]
  exact ih _ (by rw [List.length_append,List.length_singleton])
 ·intro n q hq
  simp only [zgm,Int.lt_irrefl,decide_false,Bool.false_eq_true,if_false,hq]
noncomputable def zb9 (k:Nat) (m:Mat):Bool:=(zfw k m).getD false
theorem ztx {k:Nat} (hk:KK≤k) {m:Mat} (hv:m.2.2.2.length≤1048576):zfw k m=some (zb9 k m)∧zj9 k m=some (zb9 k m)∧(zb9 k m=true→∃ R C,MatP m R C):=by
 obtain ⟨b,h1,h2,h3⟩:=z1oq hk hv
 have e:zb9 k m=b:=by unfold zb9; rw [h1]; rfl
 rw [e]
 exact ⟨h1,h2,h3⟩
noncomputable def zba (k:Nat) (p:Int):Bool:=(zce k p).getD false
theorem zty {k:Nat} (hk:KK≤k) (p:Int):zce k p=some (zba k p)∧zgh k p=some (zba k p)∧(zba k p=true→2≤p∧p≤251):=by
 obtain ⟨b,h1,h2,h3⟩:=z16t hk p
 have e:zba k p=b:=by unfold zba; rw [h1]; rfl
 rw [e]
 exact ⟨h1,h2,h3⟩
noncomputable def okA (k:Nat) (s:She) (a:Nat×Nat×Nat) (m:Mat):Bool:=zb9 k m&&(decide (m.1=s.2.1)&&(decide (m.2.1=s.2.2.1.getD a.1 0)&&decide (m.2.2.1=s.2.2.1.getD a.2.2 0)))
noncomputable def z9s (k:Nat) (s:She) (o:Nat) (l:List (Nat×Nat×Nat)) (i:Nat):Bool:=match l[i]? with
 | some a=>(match s.2.2.2[o+i]? with | some m=>okA k s a m | none=>false)
 | none=>true
def chk (k:Nat) (s:She) (o:Nat) (l:List (Nat×Nat×Nat)):Prop:=∀ j a,l[j]?=some a→∃ m,s.2.2.2[o+j]?=some m∧okA k s a m=true
theorem z181 {k:Nat} {s:She} {o:Nat} {l:List (Nat×Nat×Nat)}:(List.range l.length).all (z9s k s o l)=true↔chk k s o l:=by
 simp only [List.all_eq_true,List.mem_range]
 constructor
 ·intro z i a ha
  have:=z i (List.getElem?_eq_some_iff.1 ha).1
  unfold z9s at this
  rw [ha] at this
  cases hm:s.2.2.2[o+i]? with
  | none=>rw [hm] at this; cases this
  | some m=>rw [hm] at this; exact ⟨m,rfl,this⟩
 ·intro z i hi
  obtain ⟨m,h1,h2⟩:=z i _ (List.getElem?_eq_getElem hi)
  unfold z9s
  rw [List.getElem?_eq_getElem hi,h1]
  exact h2
theorem z1pt {k:Nat} {s:She} {o:Nat} {l r:List (Nat×Nat×Nat)}:chk k s o (l++r)↔chk k s o l∧chk k s (o+l.length) r:=by
 constructor
 ·intro h
  refine ⟨fun j a hj=>h j a (by rw [List.getElem?_append_left (List.getElem?_eq_some_iff.1 hj).1]; exact hj),fun j a hj=>?_⟩
  have:=h (l.length+j) a (by rw [List.getElem?_append_right (by omega),Nat.add_sub_cancel_left]; exact hj)
  rwa [← Nat.add_assoc] at this
 ·rintro ⟨h1,h2⟩ j a hj
  by_cases c:j<l.length
  ·rw [List.getElem?_append_left c] at hj; exact h1 j a hj
  ·rw [List.getElem?_append_right (by omega)] at hj
   have:=h2 (j-l.length) a hj
   rwa [show o+l.length+(j-l.length)=o+j by omega] at this
theorem ztz {k:Nat} {s:She}:∀ n,(∀ j,j<n→chk k s (zm s.1 j).length (z3k s.1 j))↔chk k s 0 (zm s.1 n)
 | 0=>by
  constructor
  ·intro _ j a hj; simp [zm] at hj
  ·intro _ j hj; omega
 | n+1=>by
  rw [zdk,z1pt,← ztz n,Nat.zero_add]
  constructor
  ·intro h; exact ⟨fun j hj=>h j (by omega),h n (by omega)⟩
  ·rintro ⟨h1,h2⟩ j hj
   by_cases e:j=n
   ·subst e; exact h2
   ·exact h1 j (by omega)
open Classical in
noncomputable def zy (k:Nat) (s:She):Bool:=cxB s.1&&(zba k s.2.1&&(stB s.1 s.2.2.1&&decide (s.2.2.2.length=(zm s.1 s.1.length).length∧chk k s 0 (zm s.1 s.1.length))))
structure smallSh (s:She):Prop where
 cx:z4z s.1
 st:s.2.2.1.length≤1048576
 maps:s.2.2.2.length≤1048576
 cells:∀ m∈s.2.2.2,m.2.2.2.length≤1048576
theorem z1pu {c:Cx} (h:CxP c) {n j:Nat} {a:Nat×Nat×Nat} (hn:n≤c.length) (hj:(zm c n)[j]?=some a):a.1<c.length∧a.2.2<c.length:=by
 have hm:=List.mem_of_getElem? hj
 unfold zm at hm
 obtain ⟨i,hi,ha⟩:=List.mem_flatMap.1 hm
 rw [List.mem_range] at hi
 have hg:c[i]?=some c[i]:=List.getElem?_eq_getElem (by omega)
 unfold z3k at ha
 rw [hg] at ha
 obtain ⟨p,hp,rfl⟩:=List.mem_map.1 ha
 rw [List.mem_range] at hp
 refine ⟨by show i<_; omega,z17z h (List.mem_of_getElem? hg) ?_⟩
 show (ze c c[i]).getD p 0∈_
 rw [List.getD_eq_getElem?_getD,List.getElem?_eq_getElem hp]
 exact List.getElem_mem hp
open Classical in
theorem z1pv {k:Nat} (hk:KK≤k) {s:She} (hs:smallSh s):zni k s=some (zy k s):=by
 have hK:=zg
 unfold zni zy
 obtain ⟨p1,p2,p3⟩:=zty hk s.2.1
 rw [z1pl hk hs.cx,p1,z1pp hk hs.cx hs.st]
 cases hcx:cxB s.1 with
 | false=>simp
 | true =>
 cases zba k s.2.1 with
 | false=>simp
 | true =>
 cases hst:stB s.1 s.2.2.1 with
 | false=>simp
 | true =>
  have h:=zb7.1 hcx
  have hS:=ztv hst
  have hcl:=h.len
  have hal:=z9r h s.1.length (Nat.le_refl _)
  have hcount:znh k s.1=some ((zm s.1 s.1.length).length:Int):=by
   unfold znh
   have:=ztw hk h (j:=s.1.length) (i:=0) (Nat.le_refl _) (by omega)
   rw [Nat.add_zero] at this
   rw [show ((0:Nat):Int)=0 from rfl] at this
   rw [this]; rfl
  simp only [Option.bind_some,Bool.not_true,Bool.false_eq_true,if_false,hcount,Bool.true_and]
  by_cases hN:s.2.2.2.length=(zm s.1 s.1.length).length
  ·rw [decide_eq_true (show (s.2.2.2.length:Int)=((zm s.1 s.1.length).length:Int) by omega),if_neg (by simp)]
   have:=z4d (L:=fun n i=>zau k n s i (some true)) (b:=s.1.length) (p:=fun j=>decide (chk k s (zm s.1 j).length (z3k s.1 j))) (r:=some false) (e:=some true) ?_ ?_ (n:=k) (by omega)
   ·rw [this]
    have e:((List.range s.1.length).all (fun j=>decide (chk k s (zm s.1 j).length (z3k s.1 j)))=true)↔chk k s 0 (zm s.1 s.1.length):=by
     rw [← ztz]
     simp only [List.all_eq_true,List.mem_range,decide_eq_true_eq]
    by_cases q:chk k s 0 (zm s.1 s.1.length)
    ·rw [if_pos (e.2 q),decide_eq_true ⟨hN,q⟩]
    ·rw [if_neg (fun z=>q (e.1 z)),decide_eq_false (fun z=>q z.2)]
   ·intro n j hj
    have hlt:(j:Int)<(s.1.length:Int):=by omega
    have hw:=zd (i:=j) (by omega)
    have hg:s.1[j]?=some s.1[j]:=List.getElem?_eq_getElem hj
    have hm:=List.mem_of_getElem? hg
    have h4:=(h.simp _ hm).len4
    have hbl:=zpu hg
    have hnx:(zm s.1 (j+1)).length=(zm s.1 j).length+(z3k s.1 j).length:=by rw [zdk,List.length_append]
    have hmono:=z1pr s.1 (show j+1≤s.1.length by omega)
    have haj:=z9r h j (by omega)
    have hfl:=z8i s.1 s.1[j]
    simp only [zau,hlt,decide_true,if_true]
    have inner:=z4d (L:=fun m i=>zfx k m s (j:Int) i (fun s_5 k_6=>zau k n s_5 (z6 (k_6+1)) (some true))) (b:=(z3k s.1 j).length) (p:=z9s k s (zm s.1 j).length (z3k s.1 j)) (r:=some false) (e:=zau k n s ((j+1:Nat):Int) (some true)) ?_ ?_ (n:=k) (by rw [hbl]; split <;> omega)
    ·refine Eq.trans inner ?_
     have e:=z181 (k:=k) (s:=s) (o:=(zm s.1 j).length) (l:=z3k s.1 j)
     by_cases q:chk k s (zm s.1 j).length (z3k s.1 j)
     ·rw [if_pos (e.2 q),if_pos (decide_eq_true q)]
     ·rw [if_neg (fun z=>q (e.1 z)),if_neg (by simpa using q)]
    ·intro m i hi
     have h1:1<(s.1[j]).length:=by
      apply Classical.byContradiction
      intro hn
      rw [hbl,if_neg hn] at hi; omega
     rw [if_pos h1] at hbl hfl
     have hil:i<(s.1[j]).length:=by omega
     have hil':(i:Int)<((s.1[j]).length:Int):=by omega
     have h1':(1:Int)<((s.1[j]).length:Int):=by omega
     have hw2:=zd (i:=i) (by omega)
     have hml:(zm s.1 j).length+i<s.2.2.2.length:=by omega
     have hgm:s.2.2.2[(zm s.1 j).length+i]?=some s.2.2.2[(zm s.1 j).length+i]:=List.getElem?_eq_getElem hml
     have hcells:=hs.cells _ (List.mem_of_getElem? hgm)
     have hfi:i<(ze s.1 s.1[j]).length:=by omega
     have hga:=z180 hg hfi
     have hgd:(ze s.1 s.1[j])[i]?=some ((ze s.1 s.1[j]).getD i 0):=by rw [List.getD_eq_getElem?_getD,List.getElem?_eq_getElem hfi]; rfl
     have hF:((ze s.1 s.1[j]).map fun i:Nat=>(i:Int))[i]?=some (((ze s.1 s.1[j]).getD i 0:Nat):Int):=by rw [List.getElem?_map,hgd]; rfl
     have hflt:(ze s.1 s.1[j]).getD i 0<s.1.length:=z17z h hm (List.mem_of_getElem? hgd)
     obtain ⟨s1,_⟩:=z7i hS hj
     obtain ⟨s2,_⟩:=z7i hS hflt
     simp only [zfx,zsh,Int.natCast_nonneg,if_true,Int.toNat_natCast,hg,Option.bind_some,hil',h1',decide_true,ztw hk h (show j≤s.1.length by omega) (show i≤4 by omega),hgm,zpt hk h hg,List.length_map,hfi,and_self,hF,(ztx hk hcells).1,s1,s2,hw2]
     have e:z9s k s (zm s.1 j).length (z3k s.1 j) i=okA k s (j,i,(ze s.1 s.1[j]).getD i 0) s.2.2.2[(zm s.1 j).length+i]:=by unfold z9s; rw [hga,hgm]
     rw [e]
     unfold okA
     generalize s.2.2.2[(zm s.1 j).length+i]=mm
     generalize hv:s.2.2.1.getD ((ze s.1 s.1[j]).getD i 0) 0=v
     generalize hu:s.2.2.1.getD j 0=u
     clear hv hu
     cases zb9 k mm
     ·simp
     ·by_cases q1:mm.1=s.2.1
      ·by_cases q2:mm.2.1=u
       ·by_cases q3:mm.2.2.1=v <;> simp [q1,q2,q3]
       ·simp [q1,q2]
      ·simp [q1]
    ·intro m
     have hstop:¬ (((z3k s.1 j).length:Int)<((s.1[j]).length:Int)∧(1:Int)<((s.1[j]).length:Int)):=by
      rw [hbl]; split <;> omega
     simp only [zfx,Int.natCast_nonneg,if_true,Int.toNat_natCast,hg,Option.bind_some,hw]
     by_cases q1:((z3k s.1 j).length:Int)<((s.1[j]).length:Int)
     ·have q2:¬ (1:Int)<((s.1[j]).length:Int):=fun z=>hstop ⟨q1,z⟩
      rw [decide_eq_true q1,if_pos rfl,decide_eq_false q2,if_neg (by simp)]
     ·rw [decide_eq_false q1,if_neg (by simp)]
   ·intro n
    simp only [zau,Int.lt_irrefl,decide_false,Bool.false_eq_true,if_false]
  ·rw [decide_eq_false (show ¬ (s.2.2.2.length:Int)=((zm s.1 s.1.length).length:Int) by omega),if_pos (by simp),decide_eq_false (fun z=>hN z.1)]
open Classical in
theorem z1pw {k:Nat} (hk:KK≤k) {s:She} (hs:smallSh s):zow k s=some (zy k s):=by
 have hK:=zg
 unfold zow zy
 obtain ⟨p1,p2,p3⟩:=zty hk s.2.1
 rw [z1po hk hs.cx,p2,z1pq hk hs.cx hs.st]
 cases hcx:cxB s.1 with
 | false=>simp
 | true =>
 cases zba k s.2.1 with
 | false=>simp
 | true =>
 cases hst:stB s.1 s.2.2.1 with
 | false=>simp
 | true =>
  have h:=zb7.1 hcx
  have hS:=ztv hst
  have hcl:=h.len
  have hal:=z9r h s.1.length (Nat.le_refl _)
  simp only [Option.bind_some,Bool.not_true,Bool.false_eq_true,if_false,z1ps hk h,Bool.true_and,List.length_map]
  have:=z4d (L:=fun n i=>zgo k n ((zm s.1 s.1.length).length:Int) i ((zm s.1 s.1.length).map z6o) s (fun q_11 v_12=>some (decide ((List.length q_11:Int)=(List.length v_12.2.2.2:Int))))) (b:=(zm s.1 s.1.length).length) (p:=z9s k s 0 (zm s.1 s.1.length)) (r:=some false) (e:=some (decide ((zm s.1 s.1.length).length=s.2.2.2.length))) ?_ ?_ (n:=k) (by omega)
  ·rw [this]
   have e:=z181 (k:=k) (s:=s) (o:=0) (l:=zm s.1 s.1.length)
   by_cases q:chk k s 0 (zm s.1 s.1.length)
   ·rw [if_pos (e.2 q)]
    congr 1
    exact decide_eq_decide.2 ⟨fun z=>⟨z.symm,q⟩,fun z=>z.1.symm⟩
   ·rw [if_neg (fun z=>q (e.1 z)),decide_eq_false (fun z=>q z.2)]
  ·intro n i hi
   have hlt:(i:Int)<((zm s.1 s.1.length).length:Int):=by omega
   have hw:=zd (i:=i) (by omega)
   have hg:(zm s.1 s.1.length)[i]?=some (zm s.1 s.1.length)[i]:=List.getElem?_eq_getElem hi
   have hF:((zm s.1 s.1.length).map z6o)[i]?=some (z6o (zm s.1 s.1.length)[i]):=by rw [List.getElem?_map,hg]; rfl
   obtain ⟨a1,a2⟩:=z1pu h (Nat.le_refl _) hg
   obtain ⟨s1,_⟩:=z7i hS a1
   obtain ⟨s2,_⟩:=z7i hS a2
   have hch:z9s k s 0 (zm s.1 s.1.length) i=(match s.2.2.2[i]? with | some m=>okA k s (zm s.1 s.1.length)[i] m | none=>false):=by unfold z9s; rw [hg,Nat.zero_add]
   rw [hch]
   generalize (zm s.1 s.1.length)[i]=a at hF s1 s2
   simp only [zgo,List.length_map,hlt,hi,decide_true,if_true,Int.natCast_nonneg,Int.toNat_natCast,and_self,hF,Option.bind_some,hw,z6o]
   by_cases hml:i<s.2.2.2.length
   ·have hgm:s.2.2.2[i]?=some s.2.2.2[i]:=List.getElem?_eq_getElem hml
    have hcells:=hs.cells _ (List.mem_of_getElem? hgm)
    rw [decide_eq_false (by omega),if_neg (by simp),hgm,s1,s2]
    simp only [Option.bind_some,zt3,(ztx hk hcells).2.1]
    show _=if okA k s a s.2.2.2[i]=true then _ else _
    unfold okA
    generalize s.2.2.2[i]=mm
    generalize s.2.2.1.getD a.1 0=u
    generalize s.2.2.1.getD a.2.2 0=v
    cases zb9 k mm
    ·simp
    ·by_cases q1:mm.1=s.2.1
     ·by_cases q2:mm.2.1=u
      ·by_cases q3:mm.2.2.1=v <;> simp [q1,q2,q3]
      ·simp [q1,q2]
     ·simp [q1]
   ·rw [decide_eq_true (by omega),if_pos rfl,List.getElem?_eq_none (by omega)]
    rfl
  ·intro n
   simp only [zgo,Int.lt_irrefl,decide_false,Bool.false_eq_true,if_false,List.length_map]
   exact congrArg some (decide_eq_decide.2 (by omega))
def z27 (v:List Int) (n p:Int):Bool:=v.all (fun x=>decide (0≤x∧x≤p-1))&&decide ((v.length:Int)=n)
theorem zu0 {k:Nat} (hk:KK≤k) {v:List Int} (hv:v.length≤1048576) (n:Int) {p:Int} (hp : -1000000≤p∧p≤1000000):zgp k v n p=some (z27 v n p):=by
 unfold zgp z88 z27
 simp only [Option.bind_some,ztn hk hv hp]
 by_cases c:(v.length:Int)=n
 ·rw [decide_eq_true c,if_pos rfl,Bool.and_true]
 ·rw [decide_eq_false c,if_neg (by simp),Bool.and_false]
theorem z1a {k:Nat} (hk:KK≤k) {s:She} (h:zy k s=true):CxP s.1∧(2≤s.2.1∧s.2.1≤251)∧StP s.1 s.2.2.1:=by
 unfold zy at h
 simp only [Bool.and_eq_true] at h
 exact ⟨zb7.1 h.1,(zty hk s.2.1).2.2 h.2.1,ztv h.2.2.1⟩
def z2a (f:Nat→Int):Nat→Int
 | 0=>0
 | n+1=>z2a f n+f n
theorem zjl {f:Nat→Int} {B:Int} (h:∀ t,0≤f t∧f t≤B):∀ n:Nat,0≤z2a f n∧z2a f n≤(n:Int)*B
 | 0=>by simp [z2a]
 | n+1=>by
  have h1:=zjl h n
  have h2:=h n
  have e:((n+1:Nat):Int)*B=(n:Int)*B+B:=by rw [Int.natCast_add,Int.add_mul]; simp
  show 0≤z2a f n+f n∧z2a f n+f n≤_
  rw [e]; omega
def z6b (a b:List Int) (K C i j t:Nat):Int:=a.getD (i*K+t) 0*b.getD (t*C+j) 0
def z4h (a b:List Int) (K C:Nat) (p:Int) (i j:Nat):Int:=z2a (z6b a b K C i j) K % p
def z1g (e:Nat→Nat→Int) (C:Nat):Nat→List Int
 | 0=>[]
 | R+1=>z1g e C R++(List.range C).map (e R)
theorem z9t (e:Nat→Nat→Int) (C:Nat):∀ R,(z1g e C R).length=R*C
 | 0=>by simp [z1g]
 | R+1=>by
  show (z1g e C R++(List.range C).map (e R)).length=_
  rw [List.length_append,z9t e C R,List.length_map,List.length_range,Nat.succ_mul]
def zdl (a b:Mat) (R K C:Nat):Mat:=(a.1,(R:Int),(C:Int),z1g (z4h a.2.2.2 b.2.2.2 K C a.1) C R)
theorem zpv {R C i j:Nat} (hi:i<R) (hj:j<C):i*C+j<R*C:=by
 have:(i+1)*C≤R*C:=Nat.mul_le_mul_right _ hi
 rw [Nat.succ_mul] at this
 omega
theorem zjm {m:Mat} {R C:Nat} (h:MatP m R C) (x:Nat):0≤m.2.2.2.getD x 0∧m.2.2.2.getD x 0≤250:=by
 rw [List.getD_eq_getElem?_getD]
 cases hx:m.2.2.2[x]? with
 | none=>simp
 | some y=>exact h.cells y (List.mem_of_getElem? hx)
theorem zh3 {m:Mat} {R C:Nat} (h:MatP m R C) {i j:Nat} (hi:i<R) (hj:j<C):m.2.2.2[i*C+j]?=some (m.2.2.2.getD (i*C+j) 0):=by
 have hl:i*C+j<m.2.2.2.length:=by rw [h.len]; exact zpv hi hj
 rw [List.getD_eq_getElem?_getD,List.getElem?_eq_getElem hl]; rfl
theorem zpw {a b:Mat} {R K C:Nat} (ha:MatP a R K) (hb:MatP b K C) (i j t:Nat):0≤z6b a.2.2.2 b.2.2.2 K C i j t∧z6b a.2.2.2 b.2.2.2 K C i j t≤62500:=by
 have h1:=zjm ha (i*K+t)
 have h2:=zjm hb (t*C+j)
 unfold z6b
 exact ⟨Int.mul_nonneg h1.1 h2.1,by have:=Int.mul_le_mul h1.2 h2.2 h2.1 (by omega); omega⟩
theorem z6p {i C:Nat} (h:i≤32) (hC:C≤32):z6 ((i:Int)*(C:Int))=((i*C:Nat):Int):=by
 have:i*C≤32*32:=Nat.mul_le_mul h hC
 rw [← Int.natCast_mul,zf (by omega) (by omega)]
theorem z1px (A:List Int) (m:Nat) (v:Int):(A++List.replicate (m+1) 0).set A.length v=(A++[v])++List.replicate m 0:=by
 rw [List.replicate_succ,List.set_append_right _ _ (Nat.le_refl _),Nat.sub_self,List.set_cons_zero,List.append_assoc]; rfl
theorem z182 {k:Nat} (hk:KK≤k) {a b:Mat} {R K C:Nat} (ha:MatP a R K) (hb:MatP b K C):ziy k a b=some (zdl a b R K C):=by
 have hK:=zg
 have hL:=z1p
 have hR:=ha.r32
 have hKK:=ha.c32
 have hC:=hb.c32
 have hp:=ha.prime
 have hRC:R*C≤32*32:=Nat.mul_le_mul hR hC
 unfold ziy zfy
 rw [ha.rows,hb.cols,z6p hR hC,if_pos ⟨by omega,by omega,by omega⟩]
 simp only [Option.bind_some,Int.toNat_natCast]
 have sum:∀ (i j:Nat),i<R→j<C→∀ (q6 q7:List Int) (u1 u2 u3 u4 u5 u6:Int) (E:Mat→Mat→Int→Int→Int→List Int→List Int→Int→Int→Int→Int→Int→Int→Option Mat),zci k k a b (i:Int) (j:Int) 0 0 q6 q7 u1 u2 u3 u4 u5 u6 E=E a b (i:Int) (j:Int) (z2a (z6b a.2.2.2 b.2.2.2 K C i j) K) q6 q7 u1 u2 u3 u4 u5 u6:=by
  intro i j hi hj q6 q7 u1 u2 u3 u4 u5 u6 E
  refine z29 (α:=Nat) (A:=Int) (L:=fun n t z=>zci k n a b (i:Int) (j:Int) z t q6 q7 u1 u2 u3 u4 u5 u6 E) (I:=fun pre z=>z=z2a (z6b a.2.2.2 b.2.2.2 K C i j) pre.length) (G:=fun _ _=>E a b (i:Int) (j:Int) (z2a (z6b a.2.2.2 b.2.2.2 K C i j) K) q6 q7 u1 u2 u3 u4 u5 u6) (List.range K) ?_ ?_ k (by simp; omega) 0 rfl |> fun h=>h
  ·intro n pre x post z _ hz ih _ hlt
   rw [List.length_range] at hlt
   have ht:pre.length<K:=by omega
   have hw:=zd (i:=pre.length) (by omega)
   have hik:i*K≤32*32:=Nat.mul_le_mul (by omega) (by omega)
   have htc:pre.length*C≤32*32:=Nat.mul_le_mul (by omega) (by omega)
   have w1:z6 (z6 ((i:Int)*(K:Int))+(pre.length:Int))=((i*K+pre.length:Nat):Int):=by rw [z6p (by omega) hKK,zf (by omega) (by omega)]; omega
   have w2:z6 (z6 ((pre.length:Int)*(C:Int))+(j:Int))=((pre.length*C+j:Nat):Int):=by rw [z6p (by omega) hC,zf (by omega) (by omega)]; omega
   have tb:=zpw ha hb i j pre.length
   have sb:=zjl (fun t=>zpw ha hb i j t) pre.length
   have w3:z6 (a.2.2.2.getD (i*K+pre.length) 0*b.2.2.2.getD (pre.length*C+j) 0)=z6b a.2.2.2 b.2.2.2 K C i j pre.length:=by
    show z6 (z6b a.2.2.2 b.2.2.2 K C i j pre.length)=_
    exact zf (by omega) (by omega)
   have w4:z6 (z+z6b a.2.2.2 b.2.2.2 K C i j pre.length)=z+z6b a.2.2.2 b.2.2.2 K C i j pre.length:=by rw [hz]; exact zf (by omega) (by omega)
   simp only [zci,ha.cols,hb.cols,hlt,decide_true,if_true,w1,w2,Int.natCast_nonneg,Int.toNat_natCast,zh3 ha hi ht,zh3 hb ht hj,Option.bind_some,w3,w4,hw]
   exact ih _ (by rw [hz,List.length_append,List.length_singleton]; rfl)
  ·intro n z hz
   subst hz
   simp only [zci,ha.cols,List.length_range,Int.lt_irrefl,decide_false,Bool.false_eq_true,if_false]
 have row:∀ (i:Nat),i<R→∀ (q5:List Int) (u1 u2 u3 u4 u5 u6:Int) (E:Mat→Mat→Int→List Int→List Int→Int→Int→Int→Int→Int→Int→Option Mat),zcj k k a b (i:Int) 0 q5 (z1g (z4h a.2.2.2 b.2.2.2 K C a.1) C i++List.replicate (R*C-i*C) 0) u1 u2 u3 u4 u5 u6 E=E a b (i:Int) q5 (z1g (z4h a.2.2.2 b.2.2.2 K C a.1) C (i+1)++List.replicate (R*C-(i+1)*C) 0) u1 u2 u3 u4 u5 u6:=by
  intro i hi q5 u1 u2 u3 u4 u5 u6 E
  have hb1:(i+1)*C≤R*C:=Nat.mul_le_mul_right _ hi
  have hs:(i+1)*C=i*C+C:=Nat.succ_mul i C
  refine z29 (α:=Nat) (A:=List Int) (L:=fun n j q=>zcj k n a b (i:Int) j q5 q u1 u2 u3 u4 u5 u6 E) (I:=fun pre q=>q=(z1g (z4h a.2.2.2 b.2.2.2 K C a.1) C i++(List.range pre.length).map (z4h a.2.2.2 b.2.2.2 K C a.1 i))++List.replicate (R*C-(i*C+pre.length)) 0) (G:=fun _ _=>E a b (i:Int) q5 (z1g (z4h a.2.2.2 b.2.2.2 K C a.1) C (i+1)++List.replicate (R*C-(i+1)*C) 0) u1 u2 u3 u4 u5 u6) (List.range C) ?_ ?_ k (by simp; omega) _ (by simp) |> fun h=>h
  ·intro n pre x post q _ hq ih _ hlt
   rw [List.length_range] at hlt
   have hj:pre.length<C:=by omega
   have hw:=zd (i:=pre.length) (by omega)
   have hic:i*C≤32*32:=Nat.mul_le_mul (by omega) (by omega)
   have w1:z6 (z6 ((i:Int)*(C:Int))+(pre.length:Int))=((i*C+pre.length:Nat):Int):=by rw [z6p (by omega) hC,zf (by omega) (by omega)]; omega
   have hal:(z1g (z4h a.2.2.2 b.2.2.2 K C a.1) C i++(List.range pre.length).map (z4h a.2.2.2 b.2.2.2 K C a.1 i)).length=i*C+pre.length:=by rw [List.length_append,z9t,List.length_map,List.length_range]
   have hql:q.length=R*C:=by rw [hq,List.length_append,hal,List.length_replicate]; omega
   have hlq:i*C+pre.length<q.length:=by rw [hql]; exact zpv hi hj
   have sb:=zjl (fun t=>zpw ha hb i pre.length t) K
   have hm:Int.tmod (z2a (z6b a.2.2.2 b.2.2.2 K C i pre.length) K) a.1=z4h a.2.2.2 b.2.2.2 K C a.1 i pre.length:=Int.tmod_eq_emod_of_nonneg sb.1
   simp only [zcj,hb.cols,hlt,decide_true,if_true,sum i pre.length hi hj,show ¬ a.1=0 by omega,if_false,w1,Int.natCast_nonneg,Int.toNat_natCast,hlq,and_self,List.getElem?_eq_getElem hlq,Option.bind_some,hm,hw]
   refine ih _ ?_
   rw [hq,show R*C-(i*C+pre.length)=(R*C-(i*C+(pre.length+1)))+1 by omega,← hal,z1px,List.length_append,List.length_singleton,List.range_succ,List.map_append,List.append_assoc (z1g _ C i)]
   rfl
  ·intro n q hq
   subst hq
   simp only [zcj,hb.cols,List.length_range,Int.lt_irrefl,decide_false,Bool.false_eq_true,if_false]
   rw [hs]
   rfl
 have:=z29 (α:=Nat) (A:=List Int) (L:=fun n i q=>zfz k n a b i [] q 0 0 0 a.1 (R:Int) (C:Int) (fun q_15 q_16 v_4a_17 v_4ba_18 v_4bba_19 v_5a_20 v_5ba_21 v_5bba_22=>some (v_5a_20,(v_5ba_21,(v_5bba_22,q_16))))) (I:=fun pre q=>q=z1g (z4h a.2.2.2 b.2.2.2 K C a.1) C pre.length++List.replicate (R*C-pre.length*C) 0) (G:=fun _ _=>some (zdl a b R K C)) (List.range R) ?_ ?_ k (by simp; omega) (List.replicate (R*C) 0) (by simp [z1g])
 ·exact this
 ·intro n pre x post q _ hq ih _ hlt
  rw [List.length_range] at hlt
  have hi:pre.length<R:=by omega
  have hw:=zd (i:=pre.length) (by omega)
  subst hq
  simp only [zfz,ha.rows,hlt,decide_true,if_true,row pre.length hi,hw]
  exact ih _ (by rw [List.length_append,List.length_singleton])
 ·intro n q hq
  subst hq
  simp only [zfz,ha.rows,List.length_range,Int.lt_irrefl,decide_false,Bool.false_eq_true,if_false,Nat.sub_self,List.replicate_zero,List.append_nil]
  rfl
theorem z1py {k:Nat} (hk:KK≤k) {m:Mat} {R C:Nat} (h:MatP m R C):zp2 k m=some (m.1,(C:Int),(R:Int),z1g (fun j i=>m.2.2.2.getD (i*C+j) 0) R C):=by
 have hK:=zg
 have hL:=z1p
 have hR:=h.r32
 have hC:=h.c32
 have hCR:C*R≤32*32:=Nat.mul_le_mul hC hR
 unfold zp2 zt7
 rw [h.rows,h.cols]
 have row:∀ (j:Nat),j<C→∀ (x16 x17:Int) (q3:List Int) (u1 u2 u3 u4 u5 u6:Int) (E:Int→Mat→Int→Int→List Int→List Int→Int→Int→Int→Int→Int→Int→Option Mat),zd5 k k (R:Int) m (j:Int) x16 x17 (R:Int) 0 q3 (z1g (fun j i=>m.2.2.2.getD (i*C+j) 0) R j) u1 u2 u3 u4 u5 u6 E=E (R:Int) m x16 x17 q3 (z1g (fun j i=>m.2.2.2.getD (i*C+j) 0) R (j+1)) u1 u2 u3 u4 u5 u6:=by
  intro j hj x16 x17 q3 u1 u2 u3 u4 u5 u6 E
  refine z29 (α:=Nat) (A:=List Int) (L:=fun n i q=>zd5 k n (R:Int) m (j:Int) x16 x17 (R:Int) i q3 q u1 u2 u3 u4 u5 u6 E) (I:=fun pre q=>q=z1g (fun j i=>m.2.2.2.getD (i*C+j) 0) R j++(List.range pre.length).map (fun i=>m.2.2.2.getD (i*C+j) 0)) (G:=fun _ _=>E (R:Int) m x16 x17 q3 (z1g (fun j i=>m.2.2.2.getD (i*C+j) 0) R (j+1)) u1 u2 u3 u4 u5 u6) (List.range R) ?_ ?_ k (by simp; omega) _ (by simp) |> fun h=>h
  ·intro n pre x post q _ hq ih _ hlt
   rw [List.length_range] at hlt
   have hi:pre.length<R:=by omega
   have hw:=zd (i:=pre.length) (by omega)
   have hic:pre.length*C≤32*32:=Nat.mul_le_mul (by omega) (by omega)
   have w1:z6 (z6 ((pre.length:Int)*(C:Int))+(j:Int))=((pre.length*C+j:Nat):Int):=by rw [z6p (by omega) hC,zf (by omega) (by omega)]; omega
   have hjr:j*R≤32*32:=Nat.mul_le_mul (by omega) (by omega)
   have b:(q.length+1)*8≤LIM:=by rw [hq,List.length_append,z9t,List.length_map,List.length_range]; omega
   simp only [zd5,zt6,zja,h.cols,hlt,decide_true,if_true,w1,Int.natCast_nonneg,Int.toNat_natCast,zh3 h hi hj,Option.bind_some,List.length_singleton,b,hw]
   exact ih _ (by rw [hq,List.length_append,List.length_singleton,List.range_succ,List.map_append,← List.append_assoc]; rfl)
  ·intro n q hq
   subst hq
   simp only [zd5,List.length_range,Int.lt_irrefl,decide_false,Bool.false_eq_true,if_false]
   rfl
 have:=z29 (α:=Nat) (A:=List Int) (L:=fun n i q=>zd6 k n (R:Int) m (C:Int) i [] q 0 0 0 m.1 (C:Int) (R:Int) (fun q_15 q_16 v_8a_17 v_8ba_18 v_8bba_19 v_9a_20 v_9ba_21 v_9bba_22=>some (v_9a_20,(v_9ba_21,(v_9bba_22,q_16))))) (I:=fun pre q=>q=z1g (fun j i=>m.2.2.2.getD (i*C+j) 0) R pre.length) (G:=fun _ _=>some ((m.1,(C:Int),(R:Int),z1g (fun j i=>m.2.2.2.getD (i*C+j) 0) R C):Mat)) (List.range C) ?_ ?_ k (by simp; omega) [] rfl
 ·rw [show zd6 k k (R:Int) m (C:Int) 0 [] [] 0 0 0 m.1 (C:Int) (R:Int) (fun q_15 q_16 v_8a_17 v_8ba_18 v_8bba_19 v_9a_20 v_9ba_21 v_9bba_22=>some (v_9a_20,(v_9ba_21,(v_9bba_22,q_16))))=_ from this]
  rfl
 ·intro n pre x post q _ hq ih _ hlt
  rw [List.length_range] at hlt
  have hi:pre.length<C:=by omega
  have hw:=zd (i:=pre.length) (by omega)
  subst hq
  simp only [zd6,hlt,decide_true,if_true,row pre.length hi,hw]
  exact ih _ (by rw [List.length_append,List.length_singleton])
 ·intro n q hq
  subst hq
  simp only [zd6,List.length_range,Int.lt_irrefl,decide_false,Bool.false_eq_true,if_false]
theorem z183 {e:Nat→Nat→Int} {C:Nat}:∀ {R i j:Nat},i<R→j<C→(z1g e C R)[i*C+j]?=some (e i j)
 | R+1,i,j,hi,hj=>by
  show (z1g e C R++(List.range C).map (e R))[i*C+j]?=_
  by_cases c:i<R
  ·have:i*C+j<R*C:=zpv c hj
   rw [List.getElem?_append_left (by rw [z9t]; exact this)]
   exact z183 c hj
  ·have hiR:i=R:=by omega
   subst hiR
   rw [List.getElem?_append_right (by rw [z9t]; omega),z9t,Nat.add_sub_cancel_left,List.getElem?_map,List.getElem?_range hj]
   rfl
theorem z1pz {m:Mat} {R C:Nat} (h:MatP m R C):MatP (m.1,(C:Int),(R:Int),z1g (fun j i=>m.2.2.2.getD (i*C+j) 0) R C) C R where
 rows:=rfl
 cols:=rfl
 r32:=h.c32
 c32:=h.r32
 len:=z9t ..
 prime:=h.prime
 cells:=by
  have:∀ n,∀ x∈z1g (fun j i=>m.2.2.2.getD (i*C+j) 0) R n,0≤x∧x≤250:=by
   intro n
   induction n with
   | zero=>simp [z1g]
   | succ n ih =>
    intro x hx
    have hx:x∈z1g (fun j i=>m.2.2.2.getD (i*C+j) 0) R n++(List.range R).map (fun i=>m.2.2.2.getD (i*C+n) 0):=hx
    rcases List.mem_append.1 hx with hx | hx
    ·exact ih x hx
    ·obtain ⟨i,_,rfl⟩:=List.mem_map.1 hx
     exact zjm h _
  exact this C
 lt:=by
  have hp:=h.prime
  have:∀ n,∀ x∈z1g (fun j i=>m.2.2.2.getD (i*C+j) 0) R n,x<m.1:=by
   intro n
   induction n with
   | zero=>simp [z1g]
   | succ n ih =>
    intro x hx
    have hx:x∈z1g (fun j i=>m.2.2.2.getD (i*C+j) 0) R n++(List.range R).map (fun i=>m.2.2.2.getD (i*C+n) 0):=hx
    rcases List.mem_append.1 hx with hx | hx
    ·exact ih x hx
    ·obtain ⟨i,_,rfl⟩:=List.mem_map.1 hx
     rw [List.getD_eq_getElem?_getD]
     cases hy:m.2.2.2[i*C+n]? with
     | none=>simp; omega
     | some y=>exact h.lt y (List.mem_of_getElem? hy)
  exact this C
theorem z184 {k:Nat} (hk:KK≤k) {a b:List Int} {K:Nat} (ha:a.length=K) (hb:b.length=K) (hK32:K≤32) {p:Int} (hp:2≤p∧p≤251) {f:Nat→Int} (hf:∀ t,0≤f t∧f t≤62500) (hab:∀ t x y,a[t]?=some x→b[t]?=some y→x*y=f t):zjb k a b p=some (z2a f K % p):=by
 have hK:=zg
 unfold zjb
 have:=z29 (A:=Int) (L:=fun n i z=>zgr k n a b p z (a.length:Int) i (fun sum_3=>some sum_3)) (I:=fun pre z=>z=z2a f pre.length % p) (G:=fun _ _=>some (z2a f K % p)) a ?_ ?_ k (by omega) 0 (by simp [z2a])
 ·exact this
 ·intro n pre x post z hx hz ih hg hlt
  have hw:=zd (i:=pre.length) (by omega)
  have hlb:pre.length<b.length:=by omega
  have hgb:b[pre.length]?=some b[pre.length]:=List.getElem?_eq_getElem hlb
  have hxy:=hab pre.length x _ hg hgb
  have hft:=hf pre.length
  have hz0:0≤z∧z<p:=by rw [hz]; exact ⟨Int.emod_nonneg _ (by omega),Int.emod_lt_of_pos _ (by omega)⟩
  have w1:z6 (f pre.length)=f pre.length:=zf (by omega) (by omega)
  have w2:z6 (z+f pre.length)=z+f pre.length:=zf (by omega) (by omega)
  have hm:Int.tmod (z+f pre.length) p=z2a f (pre.length+1) % p:=by
   rw [Int.tmod_eq_emod_of_nonneg (by omega),hz]
   show (z2a f pre.length % p+f pre.length) % p=(z2a f pre.length+f pre.length) % p
   rw [Int.emod_add_emod]
  simp only [zgr,hlt,decide_true,if_true,Int.natCast_nonneg,Int.toNat_natCast,hg,hgb,Option.bind_some,hxy,show ¬ p=0 by omega,if_false,w1,w2,hm,hw]
  exact ih _ (by rw [List.length_append,List.length_singleton])
 ·intro n z hz
  subst hz
  simp only [zgr,Int.lt_irrefl,decide_false,Bool.false_eq_true,if_false,ha]
theorem zu1 {m:Mat} {R C:Nat} (h:MatP m R C) (r t:Nat) {x:Int} (hx:(z4x m.2.2.2 C r)[t]?=some x):x=m.2.2.2.getD (r*C+t) 0:=by
 have ht:t<C:=by
  have:=(List.getElem?_eq_some_iff.1 hx).1
  unfold z4x at this
  rw [List.length_take] at this
  omega
 rw [z16u ht] at hx
 rw [List.getD_eq_getElem?_getD,hx]; rfl
theorem z1q0 {k:Nat} (hk:KK≤k) {a b:Mat} {R K C:Nat} (ha:MatP a R K) (hb:MatP b K C):zgs k a b=some (zdl a b R K C):=by
 have hK:=zg
 have hL:=z1p
 have hR:=ha.r32
 have hKK:=ha.c32
 have hC:=hb.c32
 have hRC:R*C≤32*32:=Nat.mul_le_mul hR hC
 have hT:=z1pz hb
 unfold zgs zt9
 rw [z1py hk hb]
 simp only [Option.bind_some]
 rw [z16w hk hT]
 simp only [Option.bind_some]
 unfold zta
 rw [ha.rows,hb.cols]
 generalize hcols:(List.range C).map (z4x (z1g (fun j i=>b.2.2.2.getD (i*C+j) 0) K C) K)=cols
 have hcell:∀ i j:Nat,i<R→j<C→zp3 k (i:Int) (j:Int) a cols=some (z4h a.2.2.2 b.2.2.2 K C a.1 i j):=by
  intro i j hi hj
  have hrow:z8a a (i:Int)=some (z4x a.2.2.2 K i):=by
   have h1:(i+1)*K≤R*K:=Nat.mul_le_mul_right _ hi
   have h2:R*K≤32*32:=Nat.mul_le_mul hR hKK
   have h3:(i+1)*K=i*K+K:=Nat.succ_mul _ _
   have hw:=zd (i:=i) (by omega)
   unfold z8a
   rw [ha.cols,z6p (by omega) hKK,hw,z6p (i:=i+1) (by omega) hKK,if_pos ⟨by omega,by omega,by rw [ha.len]; omega⟩,Int.toNat_natCast,Int.toNat_natCast,show (i+1)*K-i*K=K by omega]
   rfl
  have hcol:cols[j]?=some (z4x (z1g (fun j i=>b.2.2.2.getD (i*C+j) 0) K C) K j):=by rw [← hcols,List.getElem?_map,List.getElem?_range hj]; rfl
  unfold zp3
  rw [hrow]
  simp only [Option.bind_some,Int.natCast_nonneg,if_true,Int.toNat_natCast,hcol]
  rw [z184 hk (K:=K) (zh1 ha.len hi) (zh1 hT.len hj) hKK ha.prime (f:=z6b a.2.2.2 b.2.2.2 K C i j) (fun t=>zpw ha hb i j t) (fun t x y hx hy=>by
   have h1:=zu1 ha i t hx
   have h2:=zu1 hT j t hy
   have ht:t<K:=by
    have:=(List.getElem?_eq_some_iff.1 hy).1
    rw [zh1 hT.len hj] at this
    exact this
   have h3:(z1g (fun j i=>b.2.2.2.getD (i*C+j) 0) K C).getD (j*K+t) 0=b.2.2.2.getD (t*C+j) 0:=by rw [List.getD_eq_getElem?_getD,z183 hj ht]; rfl
   rw [h1,h2]
   show _*(z1g (fun j i=>b.2.2.2.getD (i*C+j) 0) K C).getD (j*K+t) 0=_
   rw [h3]
   rfl)]
  rfl
 have row:∀ (i:Nat),i<R→∀ (x16 x17:Int) (q3:List Int) (u1 u2 u3 u4 u5 u6:Int) (E:Int→(Mat×List (List Int))→Int→Int→List Int→List Int→Int→Int→Int→Int→Int→Int→Option Mat),zd7 k k (C:Int) (a,cols) (i:Int) x16 x17 (C:Int) 0 q3 (z1g (z4h a.2.2.2 b.2.2.2 K C a.1) C i) u1 u2 u3 u4 u5 u6 E=E (C:Int) (a,cols) x16 x17 q3 (z1g (z4h a.2.2.2 b.2.2.2 K C a.1) C (i+1)) u1 u2 u3 u4 u5 u6:=by
  intro i hi x16 x17 q3 u1 u2 u3 u4 u5 u6 E
  refine z29 (α:=Nat) (A:=List Int) (L:=fun n j q=>zd7 k n (C:Int) (a,cols) (i:Int) x16 x17 (C:Int) j q3 q u1 u2 u3 u4 u5 u6 E) (I:=fun pre q=>q=z1g (z4h a.2.2.2 b.2.2.2 K C a.1) C i++(List.range pre.length).map (z4h a.2.2.2 b.2.2.2 K C a.1 i)) (G:=fun _ _=>E (C:Int) (a,cols) x16 x17 q3 (z1g (z4h a.2.2.2 b.2.2.2 K C a.1) C (i+1)) u1 u2 u3 u4 u5 u6) (List.range C) ?_ ?_ k (by simp; omega) _ (by simp) |> fun h=>h
  ·intro n pre x post q _ hq ih _ hlt
   rw [List.length_range] at hlt
   have hj:pre.length<C:=by omega
   have hw:=zd (i:=pre.length) (by omega)
   have hic:i*C≤32*32:=Nat.mul_le_mul (by omega) (by omega)
   have b1:(q.length+1)*8≤LIM:=by rw [hq,List.length_append,z9t,List.length_map,List.length_range]; omega
   simp only [zd7,hlt,decide_true,if_true,hcell i pre.length hi hj,Option.bind_some,List.length_singleton,b1,hw]
   exact ih _ (by rw [hq,List.length_append,List.length_singleton,List.range_succ,List.map_append,← List.append_assoc]; rfl)
  ·intro n q hq
   subst hq
   simp only [zd7,List.length_range,Int.lt_irrefl,decide_false,Bool.false_eq_true,if_false]
   rfl
 have:=z29 (α:=Nat) (A:=List Int) (L:=fun n i q=>zd8 k n (C:Int) (a,cols) (R:Int) i [] q 0 0 0 a.1 (R:Int) (C:Int) (fun q_15 q_16 v_8a_17 v_8ba_18 v_8bba_19 v_9a_20 v_9ba_21 v_9bba_22=>some (v_9a_20,(v_9ba_21,(v_9bba_22,q_16))))) (I:=fun pre q=>q=z1g (z4h a.2.2.2 b.2.2.2 K C a.1) C pre.length) (G:=fun _ _=>some (zdl a b R K C)) (List.range R) ?_ ?_ k (by simp; omega) [] rfl
 ·rw [show zd8 k k (C:Int) (a,cols) (R:Int) 0 [] [] 0 0 0 a.1 (R:Int) (C:Int) (fun q_15 q_16 v_8a_17 v_8ba_18 v_8bba_19 v_9a_20 v_9ba_21 v_9bba_22=>some (v_9a_20,(v_9ba_21,(v_9bba_22,q_16))))=_ from this]
  rfl
 ·intro n pre x post q _ hq ih _ hlt
  rw [List.length_range] at hlt
  have hi:pre.length<R:=by omega
  have hw:=zd (i:=pre.length) (by omega)
  subst hq
  simp only [zd8,hlt,decide_true,if_true,row pre.length hi,hw]
  exact ih _ (by rw [List.length_append,List.length_singleton])
 ·intro n q hq
  subst hq
  simp only [zd8,List.length_range,Int.lt_irrefl,decide_false,Bool.false_eq_true,if_false]
  rfl
theorem zbb {R:Type} {L:Nat→Int→R} {b:Nat} {p:Nat→Bool} {e:R} {Q:R→Prop} (h1:∀ n (i:Nat),i<b→p i=true→L (n+1) (i:Int)=L n ((i+1:Nat):Int)) (h2:∀ n (i:Nat),i<b→p i=false→Q (L (n+1) (i:Int))) (h3:∀ n,L (n+1) (b:Int)=e) {n:Nat} (hn:b<n) :
  ((List.range b).all p=true→L n 0=e)∧((List.range b).all p=false→Q (L n 0)):=by
 have main:∀ (d i n:Nat),i+d=b→d<n→((∀ x,i≤x→x<b→p x=true)→L n (i:Int)=e)∧((∃ x,i≤x∧x<b∧p x=false)→Q (L n (i:Int))):=by
  intro d
  induction d with
  | zero =>
   intro i n hi hn
   obtain ⟨n,rfl⟩:∃ m,n=m+1:=⟨n-1,by omega⟩
   have:i=b:=by omega
   subst this
   exact ⟨fun _=>h3 n,fun ⟨x,h1,h2,_⟩=>by omega⟩
  | succ d ih =>
   intro i n hi hn
   obtain ⟨n,rfl⟩:∃ m,n=m+1:=⟨n-1,by omega⟩
   have hib:i<b:=by omega
   obtain ⟨g1,g2⟩:=ih (i+1) n (by omega) (by omega)
   cases hp:p i with
   | true =>
    rw [h1 n i hib hp]
    refine ⟨fun h=>g1 fun x hx hxb=>h x (by omega) hxb,fun ⟨x,hx,hxb,hpx⟩=>g2 ⟨x,?_,hxb,hpx⟩⟩
    rcases Nat.lt_or_ge i x with h | h
    ·exact h
    ·have:x=i:=by omega
     subst this; rw [hp] at hpx; cases hpx
   | false=>exact ⟨fun h=>(by have:=h i (Nat.le_refl _) hib; rw [hp] at this; cases this),fun _=>h2 n i hib hp⟩
 obtain ⟨g1,g2⟩:=main b 0 n (by omega) hn
 refine ⟨fun h=>g1 fun x _ hx=>List.all_eq_true.1 h x (List.mem_range.2 hx),fun h=>g2 ?_⟩
 obtain ⟨x,hx,hp⟩:=List.all_eq_false.1 h
 exact ⟨x,by omega,List.mem_range.1 hx,by simpa using hp⟩
def stN (s:She) (x:Nat):Nat:=(s.2.2.1.getD x 0).toNat
def mpS (s:She) (j i:Nat):Mat:=s.2.2.2.getD ((zm s.1 j).length+i) (0,0,0,[])
theorem z1q1 {k:Nat} {s:She} (h:zy k s=true):s.2.2.2.length=(zm s.1 s.1.length).length∧chk k s 0 (zm s.1 s.1.length):=by
 unfold zy at h
 simp only [Bool.and_eq_true,decide_eq_true_eq] at h
 exact h.2.2.2
theorem zh4 {k:Nat} (hk:KK≤k) {s:She} (hs:smallSh s) (h:zy k s=true) {j:Nat} {t:List Int} (hj:s.1[j]?=some t) {i:Nat} (hi:i<(ze s.1 t).length) :
  s.2.2.2[(zm s.1 j).length+i]?=some (mpS s j i)∧MatP (mpS s j i) (stN s j) (stN s ((ze s.1 t).getD i 0)):=by
 obtain ⟨hC,hp,hS⟩:=z1a hk h
 obtain ⟨_,hch⟩:=z1q1 h
 have hjl:=(List.getElem?_eq_some_iff.1 hj).1
 have hb:=ztz (k:=k) (s:=s) s.1.length |>.2 hch j hjl
 obtain ⟨m,h1,h2⟩:=hb i _ (z180 hj hi)
 have e:mpS s j i=m:=by unfold mpS; rw [List.getD_eq_getElem?_getD,h1]; rfl
 rw [e]
 refine ⟨h1,?_⟩
 unfold okA at h2
 simp only [Bool.and_eq_true,decide_eq_true_eq] at h2
 obtain ⟨a1,a2,a3,a4⟩:=h2
 obtain ⟨R,C,hm⟩:=(ztx hk (hs.cells m (List.mem_of_getElem? h1))).2.2 a1
 have e1:R=stN s j:=by unfold stN; have:=hm.rows; omega
 have e2:C=stN s ((ze s.1 t).getD i 0):=by unfold stN; have:=hm.cols; omega
 rw [← e1,← e2]
 exact hm
theorem zjn {k:Nat} (hk:KK≤k) {s:She} (hs:smallSh s) (h:zy k s=true) {j:Nat} {t:List Int} (hj:s.1[j]?=some t) {i:Nat} (hi:i<(ze s.1 t).length):zav k s (j:Int) (i:Int)=some (mpS s j i):=by
 obtain ⟨hC,_,_⟩:=z1a hk h
 have hjl:=(List.getElem?_eq_some_iff.1 hj).1
 have h4:=(hC.simp t (List.mem_of_getElem? hj)).len4
 have hfl:=z8i s.1 t
 have hi4:i≤4:=by rw [hfl] at hi; split at hi <;> omega
 unfold zav
 rw [ztw hk hC (by omega) hi4]
 simp only [Option.bind_some,Int.natCast_nonneg,if_true,Int.toNat_natCast,(zh4 hk hs h hj hi).1]
theorem z1q2 {k:Nat} (hk:KK≤k) {s:She} (h:CxP s.1) {j:Nat} (hj:j≤s.1.length):zoz k s (j:Int)=some ((zm s.1 j).length:Int):=by
 have hK:=zg
 have hcl:=h.len
 unfold zoz
 rw [if_pos ⟨by omega,by omega,by omega⟩,Int.toNat_natCast]
 have htl:(s.1.take j).length=j:=by rw [List.length_take]; omega
 refine z29 (A:=Int) (L:=fun n i z=>zb3 k n z (s.1.take j) ((s.1.take j).length:Int) i (fun n_3=>some n_3)) (I:=fun pre z=>z=((zm s.1 pre.length).length:Int)) (G:=fun _ _=>some ((zm s.1 j).length:Int)) (s.1.take j) ?_ ?_ k (by omega) 0 (by simp [zm])
 ·intro n pre x post z hx hz ih hg hlt
  have hpl:pre.length<j:=by omega
  have hw:=zd (i:=pre.length) (by omega)
  have hgc:s.1[pre.length]?=some x:=by rw [List.getElem?_take_of_lt hpl] at hg; exact hg
  have h4:=(h.simp _ (List.mem_of_getElem? hgc)).len4
  have hal:=z9r h pre.length (by omega)
  have hnx:(zm s.1 (pre.length+1)).length=(zm s.1 pre.length).length+(if 1<x.length then x.length else 0):=by rw [zdk,List.length_append,zpu hgc]
  simp only [zb3,hlt,decide_true,if_true,Int.natCast_nonneg,Int.toNat_natCast,hg,Option.bind_some,hw]
  by_cases c1:1<x.length
  ·have hwz:z6 (z+(x.length:Int))=z+(x.length:Int):=zf (by omega) (by omega)
   rw [decide_eq_true (by omega),if_pos rfl]
   show zb3 k n (z6 (z+(x.length:Int))) _ _ _ _=_
   rw [hwz]
   refine ih _ ?_
   rw [if_pos c1] at hnx
   rw [List.length_append,List.length_singleton,hnx,hz]; rfl
  ·rw [decide_eq_false (by omega),if_neg (by simp)]
   refine ih _ ?_
   rw [if_neg c1] at hnx
   rw [List.length_append,List.length_singleton,hnx,hz]; rfl
 ·intro n z hz
  rw [htl] at hz
  simp only [zb3,Int.lt_irrefl,decide_false,Bool.false_eq_true,if_false,hz]
theorem zpx {k:Nat} (hk:KK≤k) {s:She} (hs:smallSh s) (h:zy k s=true) {j:Nat} {t:List Int} (hj:s.1[j]?=some t) {i:Nat} (hi:i<(ze s.1 t).length):z89 k s (j:Int) (i:Int)=some (mpS s j i):=by
 obtain ⟨hC,_,_⟩:=z1a hk h
 have hjl:=(List.getElem?_eq_some_iff.1 hj).1
 have hcl:=hC.len
 have hal:=z9r hC j (by omega)
 have h4:=(hC.simp t (List.mem_of_getElem? hj)).len4
 have hfl:=z8i s.1 t
 have hi4:i≤4:=by rw [hfl] at hi; split at hi <;> omega
 have hw:z6 (((zm s.1 j).length:Int)+(i:Int))=(((zm s.1 j).length+i:Nat):Int):=by rw [zf (by omega) (by omega)]; omega
 unfold z89
 rw [z1q2 hk hC (by omega)]
 simp only [Option.bind_some,hw,Int.natCast_nonneg,if_true,Int.toNat_natCast,(zh4 hk hs h hj hi).1]
theorem zjo {s:She} (hC:CxP s.1) {j:Nat} {t:List Int} (hj:s.1[j]?=some t) (h3:2<t.length) {i:Nat} (hi:i<t.length) :
  (ze s.1 t).length=t.length∧(ze s.1 t)[i]?=some ((ze s.1 t).getD i 0)∧∃ f,s.1[(ze s.1 t).getD i 0]?=some f∧f.length=t.length-1∧(ze s.1 f).length=t.length-1:=by
 have hm:=List.mem_of_getElem? hj
 have hfl:=z8i s.1 t
 rw [if_pos (by omega)] at hfl
 have hF:(ze s.1 t).getD i 0=z2r s.1 (zw t i):=by
  rw [List.getD_eq_getElem?_getD]
  unfold ze z21
  rw [if_pos (by omega),List.getElem?_map,List.getElem?_map,List.getElem?_range hi]; rfl
 have hmem:=hC.face t hm (by omega) i hi
 have hdl:=z8g hi
 have hfl2:=z8i s.1 (zw t i)
 rw [if_pos (by omega)] at hfl2
 refine ⟨hfl,?_,zw t i,by rw [hF]; exact zdj hmem,hdl,by omega⟩
 rw [List.getD_eq_getElem?_getD,List.getElem?_eq_getElem (by omega)]; rfl
def sqS (s:She) (j:Nat) (t:List Int) (i i2:Nat):Mat :=
 zdl (mpS s j i) (mpS s ((ze s.1 t).getD i 0) (if i<i2 then i2-1 else i2)) (stN s j) (stN s ((ze s.1 t).getD i 0)) (stN s ((ze s.1 (s.1.getD ((ze s.1 t).getD i 0) [])).getD (if i<i2 then i2-1 else i2) 0))
theorem zu2 {k:Nat} (hk:KK≤k) {s:She} (hs:smallSh s) (h:zy k s=true) {j:Nat} {t:List Int} (hj:s.1[j]?=some t) (h3:2<t.length) {i i2:Nat} (hi:i<t.length) (hi2:i2<t.length) (hne:i≠i2) :
  ∃ R K C,MatP (mpS s j i) R K∧MatP (mpS s ((ze s.1 t).getD i 0) (if i<i2 then i2-1 else i2)) K C∧zdl (mpS s j i) (mpS s ((ze s.1 t).getD i 0) (if i<i2 then i2-1 else i2)) R K C=sqS s j t i i2 ∧
   (∃ f,s.1[(ze s.1 t).getD i 0]?=some f∧(if i<i2 then i2-1 else i2)<(ze s.1 f).length)∧i<(ze s.1 t).length:=by
 obtain ⟨hC,_,_⟩:=z1a hk h
 obtain ⟨f1,f2,f,f3,f4,f5⟩:=zjo hC hj h3 hi
 have hx:(if i<i2 then i2-1 else i2)<(ze s.1 f).length:=by rw [f5]; split <;> omega
 have m1:=(zh4 hk hs h hj (i:=i) (by omega)).2
 have m2:=(zh4 hk hs h f3 hx).2
 have hgd:s.1.getD ((ze s.1 t).getD i 0) []=f:=by rw [List.getD_eq_getElem?_getD,f3]; rfl
 refine ⟨_,_,_,m1,m2,?_,⟨f,f3,hx⟩,by omega⟩
 unfold sqS
 rw [hgd]
theorem zbc {k:Nat} (hk:KK≤k) {s:She} (hs:smallSh s) (h:zy k s=true) {j:Nat} {t:List Int} (hj:s.1[j]?=some t) (h3:2<t.length) {i i2:Nat} (hi:i<t.length) (hi2:i2<t.length) (hne:i≠i2):ziz k s (j:Int) (i:Int) (i2:Int)=some (sqS s j t i i2):=by
 obtain ⟨hC,_,_⟩:=z1a hk h
 have hsl:=(hC.simp t (List.mem_of_getElem? hj)).len4
 obtain ⟨f1,f2,_⟩:=zjo hC hj h3 hi
 obtain ⟨R,K,C,m1,m2,m3,⟨f,f3,hx⟩,hil⟩:=zu2 hk hs h hj h3 hi hi2 hne
 have hF:((ze s.1 t).map fun i:Nat=>(i:Int))[i]?=some (((ze s.1 t).getD i 0:Nat):Int):=by rw [List.getElem?_map,f2]; rfl
 unfold ziz
 rw [zpt hk hC hj]
 simp only [Option.bind_some,List.length_map,Int.natCast_nonneg,Int.toNat_natCast,hil,and_self,if_true,hF,zjn hk hs h hj hil]
 by_cases c:i<i2
 ·have hw:z6 ((i2:Int)-1)=((i2-1:Nat):Int):=by rw [zf (by omega) (by omega)]; omega
  rw [if_pos c] at m2 m3 hx
  rw [decide_eq_true (by omega),if_pos rfl,hw,zjn hk hs h f3 hx]
  simp only [Option.bind_some,z182 hk m1 m2,m3]
 ·rw [if_neg c] at m2 m3 hx
  rw [decide_eq_false (by omega),if_neg (by simp),zjn hk hs h f3 hx]
  simp only [Option.bind_some,z182 hk m1 m2,m3]
theorem zpy {k:Nat} (hk:KK≤k) {s:She} (hs:smallSh s) (h:zy k s=true) {j:Nat} {t:List Int} (hj:s.1[j]?=some t) (h3:2<t.length) {i i2:Nat} (hi:i<t.length) (hi2:i2<t.length) (hne:i≠i2) :
  z89 k s (j:Int) (i:Int)=some (mpS s j i)∧z89 k s (((ze s.1 t).getD i 0:Nat):Int) ((if i<i2 then i2-1 else i2:Nat):Int)=some (mpS s ((ze s.1 t).getD i 0) (if i<i2 then i2-1 else i2)) ∧
   zgs k (mpS s j i) (mpS s ((ze s.1 t).getD i 0) (if i<i2 then i2-1 else i2))=some (sqS s j t i i2):=by
 obtain ⟨R,K,C,m1,m2,m3,⟨f,f3,hx⟩,hil⟩:=zu2 hk hs h hj h3 hi hi2 hne
 exact ⟨zpx hk hs h hj hil,zpx hk hs h f3 hx,by rw [z1q0 hk m1 m2,m3]⟩
theorem zpz {k:Nat} (hk:KK≤k) {a b:Mat} (ha:a.2.2.2.length≤1048576):znp k a b=some (decide (a=b)):=by
 have hK:=zg
 obtain ⟨a1,a2,a3,a4⟩:=a
 obtain ⟨b1,b2,b3,b4⟩:=b
 unfold znp
 simp only at ha ⊢
 by_cases e1:a1=b1
 case neg=>rw [decide_eq_false e1,if_pos (by simp),decide_eq_false (fun z=>e1 (by cases z; rfl))]
 rw [decide_eq_true e1,if_neg (by simp)]
 by_cases e2:a2=b2
 case neg=>rw [decide_eq_false e2,if_pos (by simp),decide_eq_false (fun z=>e2 (by cases z; rfl))]
 rw [decide_eq_true e2,if_neg (by simp)]
 by_cases e3:a3=b3
 case neg=>rw [decide_eq_false e3,if_pos (by simp),decide_eq_false (fun z=>e3 (by cases z; rfl))]
 rw [decide_eq_true e3,if_neg (by simp)]
 by_cases hl:a4.length=b4.length
 case neg=>rw [decide_eq_false (by omega),if_pos (by simp),decide_eq_false (fun z=>hl (by cases z; rfl))]
 rw [decide_eq_true (by omega),if_neg (by simp)]
 have:=zao (L:=fun n i=>zg0 k n (a1,a2,a3,a4) (b1,b2,b3,b4) i (some true)) a4 b4 hl ?_ ?_ (n:=k) (by omega)
 ·refine Eq.trans this ?_
  congr 1
  refine decide_eq_decide.2 ⟨fun z=>by rw [e1,e2,e3,z],fun z=>by cases z; rfl⟩
 ·intro n i x y hx hy hlt
  have hw:=zd (i:=i) (by omega)
  by_cases e:x=y <;> simp [zg0,hlt,hx,hy,hw,e]
 ·intro n
  simp [zg0]
theorem z185 {k:Nat} (hk:KK≤k) {a b:Mat} (ha:a.2.2.2.length≤1048576):zp6 k a b=some (decide (a=b)):=by
 have hK:=zg
 obtain ⟨a1,a2,a3,a4⟩:=a
 obtain ⟨b1,b2,b3,b4⟩:=b
 unfold zp6 ztb
 simp only at ha ⊢
 by_cases e1:a1=b1
 case neg=>rw [decide_eq_false e1,if_neg (by simp),decide_eq_false (fun z=>e1 (by cases z; rfl))]
 rw [decide_eq_true e1,if_pos rfl]
 by_cases e2:a2=b2
 case neg=>rw [decide_eq_false e2,if_neg (by simp),decide_eq_false (fun z=>e2 (by cases z; rfl))]
 rw [decide_eq_true e2,if_pos rfl]
 by_cases e3:a3=b3
 case neg=>rw [decide_eq_false e3,if_neg (by simp),decide_eq_false (fun z=>e3 (by cases z; rfl))]
 rw [decide_eq_true e3,if_pos rfl]
 by_cases hl:a4.length=b4.length
 case neg=>rw [decide_eq_false (by omega),if_pos (by simp),decide_eq_false (fun z=>hl (by cases z; rfl))]; rfl
 rw [decide_eq_true (by omega),if_neg (by simp)]
 have:=zao (L:=fun n i=>zd9 k n a4 b4 (a4.length:Int) i (some true)) a4 b4 hl ?_ ?_ (n:=k) (by omega)
 ·have h0:zd9 k k a4 b4 (a4.length:Int) 0 (some true)=_:=this
  rw [h0]
  simp only [Option.bind_some]
  congr 1
  refine decide_eq_decide.2 ⟨fun z=>by rw [e1,e2,e3,z],fun z=>by cases z; rfl⟩
 ·intro n i x y hx hy hlt
  have hw:=zd (i:=i) (by omega)
  by_cases e:x=y <;> simp [zd9,hlt,hx,hy,hw,e]
 ·intro n
  simp [zd9]
theorem z1q3 (a b:Mat) (R K C:Nat):(zdl a b R K C).2.2.2.length=R*C:=z9t ..
theorem zu3 (p:Int) (R N:Nat):∀ d c f (P:List Int),c+d=N→(∀ x∈P,0≤x∧x<(N:Int))→∀ x∈(gz p R d c f P).2,0≤x∧x<(N:Int)
 | 0,_,_,_,_,h=>h
 | d+1,c,f,P,hc,h=>by
  unfold gz
  split
  ·exact zu3 p R N d (c+1) f P (by omega) h
  ·refine zu3 p R N d (c+1) _ _ (by omega) fun x hx=>?_
   rcases List.mem_append.1 hx with hx | hx
   ·exact h x hx
   ·have:x=(c:Int):=by simpa using hx
    omega
theorem z186 {S R:Type} {L:Nat→Int→S→R} {b:Nat} {st:Nat→S} {p:Nat→Bool} {e x:R} (h1:∀ n (i:Nat),i<b→p i=true→L (n+1) (i:Int) (st i)=L n ((i+1:Nat):Int) (st (i+1))) (h2:∀ n (i:Nat),i<b→p i=false→L (n+1) (i:Int) (st i)=x) (h3:∀ n,L (n+1) (b:Int) (st b)=e) {n:Nat} (hn:b<n) :
  L n 0 (st 0)=if (List.range b).all p=true then e else x:=by
 have key:=zbb (L:=fun n z=>L n z (st z.toNat)) (b:=b) (p:=p) (e:=e) (Q:=fun r=>r=x) (fun n i hi hp=>by simp only [Int.toNat_natCast]; exact h1 n i hi hp) (fun n i hi hp=>by simp only [Int.toNat_natCast]; exact h2 n i hi hp) (fun n=>by simp only [Int.toNat_natCast]; exact h3 n) hn
 have e0:(0:Int).toNat=0:=rfl
 simp only [e0] at key
 cases hp:(List.range b).all p with
 | true=>rw [if_pos rfl]; exact key.1 hp
 | false=>rw [if_neg (by simp)]; exact key.2 hp
def z35 (m:Mat) (b:List Int) (C:Nat):Nat→Nat→Int:=fun i j=>if j<C then fM m C i j else b.getD i 0
theorem z1q4 {m:Mat} {R C:Nat} (h:MatP m R C) {b:List Int} (hb:∀ x∈b,0≤x∧x≤m.1-1):BdF m.1 (z35 m b C):=fun i j=>by
 have hp:=h.prime
 unfold z35
 split
 ·exact z1p3 h C i j
 ·rw [List.getD_eq_getElem?_getD]
  cases hx:b[i]? with
  | none=>exact ⟨by simp,by simp; omega⟩
  | some x=>have:=hb x (List.mem_of_getElem? hx); simp only [Option.getD_some]; omega
theorem z187 {m:Mat} {C i:Nat} {b:List Int}:z16 (C+1) (z35 m b C) i=z16 C (fM m C) i++[b.getD i 0]:=by
 unfold z16
 rw [List.range_succ,List.map_append]
 congr 1
 ·exact List.map_congr_left fun j hj=>by unfold z35; rw [if_pos (List.mem_range.1 hj)]
 ·simp [z35]
theorem z1q5 (R C:Nat) (f:Nat→Nat→Int):z10 (R+1) C f=z10 R C f++z16 C f R:=by
 refine List.ext_getElem? fun t=>?_
 rcases Nat.lt_or_ge t (R*C) with ht | ht
 ·rw [List.getElem?_append_left (by rw [z4f]; exact ht)]
  unfold z10
  rw [List.getElem?_map,List.getElem?_map,List.getElem?_range ht,List.getElem?_range (by rw [Nat.succ_mul]; omega)]
 ·rw [List.getElem?_append_right (by rw [z4f]; exact ht),z4f]
  rcases Nat.lt_or_ge t ((R+1)*C) with ht2 | ht2
  ·have hj:t-R*C<C:=by rw [Nat.succ_mul] at ht2; omega
   have:=z7f (R:=R+1) f (i:=R) (j:=t-R*C) (by omega) hj
   rw [show R*C+(t-R*C)=t by omega] at this
   rw [this,zdf f R hj]
  ·rw [List.getElem?_eq_none (by rw [z4f]; exact ht2),List.getElem?_eq_none (by rw [zpi]; rw [Nat.succ_mul] at ht2; omega)]
def z6c (f:Nat→Nat→Int) (C:Nat) (P:List Int):Nat→List Int
 | 0=>List.replicate C 0
 | i+1=>(z6c f C P i).set (P.getD i 0).toNat (f i C)
theorem zjp (f:Nat→Nat→Int) (C:Nat) (P:List Int):∀ i,(z6c f C P i).length=C
 | 0=>by simp [z6c]
 | i+1=>by simp [z6c,zjp f C P i]
def zq0 (f:Nat→Nat→Int) (C:Nat) (P:List Int):List Int×Bool:=if (List.range P.length).all (fun i=>!decide (P.getD i 0=(C:Int)))=true then (z6c f C P P.length,true) else ([],false)
theorem z1q6 {k:Nat} (hk:KK≤k) {m:Mat} {R C:Nat} (h:MatP m R C) {b:List Int} (hl:b.length=R):znw k m (m.1,(m.2.1,(1,b)))=some (m.1,m.2.1,((C+1:Nat):Int),z10 R (C+1) (z35 m b C)):=by
 have hK:=zg
 have hL:=z1p
 have h32:=h.c32
 have hr32:=h.r32
 unfold znw
 have hw1:z6 (m.2.2.1+1)=((C+1:Nat):Int):=by rw [h.cols,zf (by omega) (by omega)]; omega
 simp only [hw1]
 have:=zb4 (S:=List Int) (L:=fun n i q=>zg6 k n m (m.1,(m.2.1,(1,b))) i [] q 0 0 0 m.1 m.2.1 ((C+1:Nat):Int) (fun q_3 q_4 v_4a_5 v_4ba_6 v_4bba_7 v_5a_8 v_5ba_9 v_5bba_10=>some (v_5a_8,(v_5ba_9,(v_5bba_10,q_4))))) (b:=R) (st:=fun i=>z10 i (C+1) (z35 m b C)) (e:=some (m.1,m.2.1,((C+1:Nat):Int),z10 R (C+1) (z35 m b C))) ?_ ?_ (n:=k) (by omega)
 ·have e0:z10 0 (C+1) (z35 m b C)=[]:=by unfold z10; rw [Nat.zero_mul]; rfl
  rw [e0] at this
  exact this
 ·intro n i hi
  have hlt:(i:Int)<m.2.1:=by rw [h.rows]; omega
  have hw:=zd (i:=i) (by omega)
  have a1:(i+1)*C≤R*C:=Nat.mul_le_mul_right _ hi
  have a2:R*C≤32*32:=Nat.mul_le_mul hr32 h32
  have a3:(i+1)*C=i*C+C:=Nat.succ_mul _ _
  have a4:i*(C+1)=i*C+i:=Nat.mul_succ _ _
  have m1:z6 ((i:Int)*m.2.2.1)=((i*C:Nat):Int):=by rw [h.cols,← Int.natCast_mul]; exact zf (by omega) (by omega)
  have m2:z6 (((i+1:Nat):Int)*m.2.2.1)=(((i+1)*C:Nat):Int):=by rw [h.cols,← Int.natCast_mul]; exact zf (by omega) (by omega)
  have m3:z6 ((i:Int)*1)=(i:Int):=by rw [zf (by omega) (by omega)]; omega
  have m4:z6 (((i+1:Nat):Int)*1)=((i+1:Nat):Int):=by rw [zf (by omega) (by omega)]; omega
  have c1:(0:Int)≤((i*C:Nat):Int)∧((i*C:Nat):Int)≤(((i+1)*C:Nat):Int)∧(((i+1)*C:Nat):Int)≤(m.2.2.2.length:Int):=⟨by omega,by omega,by rw [h.len]; omega⟩
  have c2:(0:Int)≤(i:Int)∧(i:Int)≤((i+1:Nat):Int)∧((i+1:Nat):Int)≤(b.length:Int):=⟨by omega,by omega,by omega⟩
  have hrow:(m.2.2.2.drop (i*C)).take ((i+1)*C-i*C)=z16 C (fM m C) i:=by
   rw [show (i+1)*C-i*C=C by omega]
   have:=congrArg (fun l:List (List Int)=>l[i]?) (z17g h)
   simp only [List.getElem?_map,List.getElem?_range hi,z6m (fM m C) hi,Option.map_some,Option.some.injEq] at this
   exact this
  have hbi:(b.drop i).take (i+1-i)=[b.getD i 0]:=by
   rw [show i+1-i=1 by omega,List.getD_eq_getElem?_getD,List.getElem?_eq_getElem (by omega),List.drop_eq_getElem_cons (by omega)]
   rfl
  have l1:(z10 i (C+1) (z35 m b C)).length=i*C+i:=by rw [z4f]; omega
  have l2:(z16 C (fM m C) i).length=C:=zpi _ _ _
  simp only [zg6,hlt,decide_true,if_true,hw,m1,m2,m3,m4,Int.toNat_natCast,c1,c2,and_self,hrow,hbi,List.length_append,l1,l2,List.length_singleton]
  rw [if_pos (by omega),if_pos (by omega),z1q5,z187,List.append_assoc]
 ·intro n
  have:¬ (R:Int)<m.2.1:=by rw [h.rows]; omega
  simp only [zg6,this,decide_false,Bool.false_eq_true,if_false]
theorem z1q7 {k:Nat} (hk:KK≤k) {m:Mat} {R C:Nat} (h:MatP m R C) {b:List Int} (hl:b.length=R) (hb:∀ x∈b,0≤x∧x≤m.1-1):∃ r,zo5 k m b=some r∧zmo k m b=some r:=by
 have hK:=zg
 have hL:=z1p
 have h32:=h.c32
 have hr32:=h.r32
 have hp:=h.prime
 have hcols:0≤(C:Int)∧(C:Int)≤(C:Int)∧(C:Int)*8≤LIM:=⟨by omega,Int.le_refl _,by omega⟩
 have hbd:=z1q4 h hb
 have hRC:R*(C+1)≤32*33:=Nat.mul_le_mul hr32 (by omega)
 obtain ⟨g,hg⟩:∃ g,g=gz m.1 R (C+1) 0 (z35 m b C) []:=⟨_,rfl⟩
 have hPl:g.2.length≤R:=by rw [hg]; exact ztq _ _ _ _ _ _ (Nat.zero_le _)
 have hPv:∀ x∈g.2,0≤x∧x<((C+1:Nat):Int):=by rw [hg]; exact zu3 _ _ _ _ _ _ _ (by omega) (by simp)
 have hPg:∀ i,i<g.2.length→g.2[i]?=some (g.2.getD i 0)∧0≤g.2.getD i 0∧g.2.getD i 0<((C+1:Nat):Int):=fun i hi=>by
  have e:g.2[i]?=some (g.2.getD i 0):=by rw [List.getD_eq_getElem?_getD,List.getElem?_eq_getElem hi]; rfl
  exact ⟨e,hPv _ (List.mem_of_getElem? e)⟩
 refine ⟨zq0 g.1 C g.2,?_,?_⟩
 ·unfold zo5
  rw [z1q6 hk h hl]
  simp only [Option.bind_some]
  obtain ⟨det,e⟩:=z1oy hk (m:=(m.1,m.2.1,((C+1:Nat):Int),z10 R (C+1) (z35 m b C))) (R:=R) (C:=C+1) h.rows (by omega) (by omega) hp [] 0 0 0 m.1 m.2.1 ((C+1:Nat):Int) (fun det_100 q_101 q_102 q_103 v_2a_104 v_2ba_105 v_2bba_106 v_5a_107 v_5ba_108 v_5bba_109=>some ((v_5a_107,(v_5ba_108,(v_5bba_109,q_103))),q_101,det_100)) (C+1) 0 k (z35 m b C) [] 1 (by omega) (by omega) hbd (Nat.zero_le _) (Nat.zero_le _)
  rw [← hg] at e
  have hred:zny k (m.1,m.2.1,((C+1:Nat):Int),z10 R (C+1) (z35 m b C))=some ((m.1,m.2.1,((C+1:Nat):Int),z10 R (C+1) g.1),g.2,det):=by
   unfold zny
   rw [z1p4 (by rw [z4f]; omega)]
   simp only [Option.bind_some]
   exact e
  rw [hred]
  simp only [Option.bind_some]
  rw [h.cols,if_pos hcols,Int.toNat_natCast]
  have:=z186 (S:=List Int) (L:=fun n i q=>zcu k n m i g.2 q (z10 R (C+1) (z35 m b C)) (z10 R (C+1) g.1) m.1 m.2.1 ((C+1:Nat):Int) m.1 m.2.1 ((C+1:Nat):Int) (fun q_12=>some (q_12,true))) (b:=g.2.length) (st:=z6c g.1 C g.2) (p:=fun i=>!decide (g.2.getD i 0=(C:Int))) (e:=some (z6c g.1 C g.2 g.2.length,true)) (x:=some ([],false)) ?_ ?_ ?_ (n:=k) (by omega)
  ·refine Eq.trans this ?_
   unfold zq0
   split <;> rfl
  ·intro n i hi hp0
   have hlt:(i:Int)<(g.2.length:Int):=by omega
   have hw:=zd (i:=i) (by omega)
   obtain ⟨p1,p2,p3⟩:=hPg i hi
   have hne:¬ g.2.getD i 0=(C:Int):=by simpa using hp0
   have hx:=z9l (i:=i) (C:=C+1) (j:=C) (by omega) (by omega) (by omega)
   have hl1:=ixl (R:=R) (C:=C+1) (i:=i) (j:=C) (by omega) (by omega)
   have hc:0≤g.2.getD i 0∧(g.2.getD i 0).toNat<C:=⟨p2,by omega⟩
   have hgx:(z6c g.1 C g.2 i)[(g.2.getD i 0).toNat]?=some ((z6c g.1 C g.2 i)[(g.2.getD i 0).toNat]'(by rw [zjp]; exact hc.2)):=List.getElem?_eq_getElem _
   simp only [zcu,hlt,decide_true,if_true,Int.natCast_nonneg,Int.toNat_natCast,hi,and_self,p1,Option.bind_some,h.cols,hne,decide_false,Bool.false_eq_true,if_false,hx,z4f,hl1,z7f g.1 (show i<R by omega) (show C<C+1 by omega),zjp,hc,hgx,hw]
   rfl
  ·intro n i hi hp0
   have hlt:(i:Int)<(g.2.length:Int):=by omega
   obtain ⟨p1,p2,p3⟩:=hPg i hi
   have hne:g.2.getD i 0=(C:Int):=by simpa using hp0
   simp only [zcu,hlt,decide_true,if_true,Int.natCast_nonneg,Int.toNat_natCast,hi,and_self,p1,Option.bind_some,h.cols,hne]
  ·intro n
   simp only [zcu,Int.lt_irrefl,decide_false,Bool.false_eq_true,if_false]
 ·unfold zmo
  rw [z16w hk h,z17g h]
  simp only [Option.bind_some,z8d]
  obtain ⟨det,e⟩:=z1p5 hk (R:=R) (C:=C+1) (by omega) (by omega) hp hbd
  rw [← hg] at e
  have hcw:z6 (m.2.2.1+1)=((C+1:Nat):Int):=by rw [h.cols,zf (by omega) (by omega)]; omega
  have l1:=z186 (S:=List Int) (L:=fun n i q=>zar k n (g.2.length:Int) i (z1q R (C+1) g.1) q g.2 m (fun q_17=>some (q_17,true))) (b:=g.2.length) (st:=z6c g.1 C g.2) (p:=fun i=>!decide (g.2.getD i 0=(C:Int))) (e:=some (z6c g.1 C g.2 g.2.length,true)) (x:=some ([],false)) ?_ ?_ ?_ (n:=k) (by omega)
  ·have l0:=zb4 (S:=List (List Int)) (L:=fun n i q=>zc7 k n b (R:Int) i q m (fun q_6 v_7=>(zmm k (z6 (v_7.2.2.1+1)) v_7.1 q_6).bind fun y_8=>(if 0≤v_7.2.2.1∧v_7.2.2.1≤v_7.2.2.1∧v_7.2.2.1*8≤LIM then zar k k (List.length y_8.2.1.2.1:Int) 0 y_8.2.1.1 (List.replicate v_7.2.2.1.toNat 0) y_8.2.1.2.1 v_7 (fun q_17=>some (q_17,true)) else none))) (b:=R) (st:=fun n=>(List.range R).map fun (i:Nat)=>if i<n then z16 (C+1) (z35 m b C) i else z16 C (fM m C) i) (e:=some (zq0 g.1 C g.2)) ?_ ?_ (n:=k) (by omega)
   ·refine Eq.trans ?_ l0
    have:z1q R C (fM m C)=(List.range R).map fun (i:Nat)=>if i<0 then z16 (C+1) (z35 m b C) i else z16 C (fM m C) i:=by
     unfold z1q
     exact List.map_congr_left fun i _=>by rw [if_neg (Nat.not_lt_zero _)]
    rw [this]
   ·intro n i hi
    have hlt:(i:Int)<(R:Int):=by omega
    have hw:=zd (i:=i) (by omega)
    have hbi:b[i]?=some (b.getD i 0):=by rw [List.getD_eq_getElem?_getD,List.getElem?_eq_getElem (by omega)]; rfl
    have hgi:((List.range R).map fun (x:Nat)=>if x<i then z16 (C+1) (z35 m b C) x else z16 C (fM m C) x)[i]?=some (z16 C (fM m C) i):=by
     rw [List.getElem?_map,List.getElem?_range hi]
     simp only [Option.map_some,Nat.lt_irrefl,if_false]
    have hset:((List.range R).map fun (x:Nat)=>if x<i then z16 (C+1) (z35 m b C) x else z16 C (fM m C) x).set i (z16 C (fM m C) i++[b.getD i 0])=(List.range R).map fun (x:Nat)=>if x<i+1 then z16 (C+1) (z35 m b C) x else z16 C (fM m C) x:=by
     rw [← z187]
     refine List.ext_getElem? fun x=>?_
     rw [List.getElem?_set,List.length_map,List.length_range]
     by_cases hx:x<R
     ·rw [List.getElem?_map,List.getElem?_map,List.getElem?_range hx]
      simp only [Option.map_some]
      by_cases e2:i=x
      ·subst e2; rw [if_pos rfl,if_pos hx,if_pos (Nat.lt_succ_self _)]
      ·rw [if_neg e2]
       by_cases e3:x<i
       ·rw [if_pos e3,if_pos (show x<i+1 by omega)]
       ·rw [if_neg e3,if_neg (show ¬ x<i+1 by omega)]
     ·rw [List.getElem?_eq_none (by simpa using hx),List.getElem?_eq_none (by simpa using hx),if_neg (by omega)]
    have hln:(z16 C (fM m C) i).length=C:=zpi _ _ _
    simp only [zc7,hlt,decide_true,if_true,Int.natCast_nonneg,Int.toNat_natCast,List.length_map,List.length_range,hi,and_self,hgi,Option.bind_some,hbi,hw,hln,List.length_singleton]
    rw [if_pos (by omega)]
    show zc7 k n b (R:Int) ((i+1:Nat):Int) (List.set _ i (z16 C (fM m C) i++[b.getD i 0])) m _=_
    rw [hset]
   ·intro n
    have hE:((List.range R).map fun (x:Nat)=>if x<R then z16 (C+1) (z35 m b C) x else z16 C (fM m C) x)=z1q R (C+1) (z35 m b C):=by
     unfold z1q
     exact List.map_congr_left fun i hi=>by rw [if_pos (List.mem_range.1 hi)]
    simp only [zc7,Int.lt_irrefl,decide_false,Bool.false_eq_true,if_false,hcw,hE,e,Option.bind_some]
    rw [h.cols,if_pos hcols,Int.toNat_natCast]
    refine Eq.trans l1 ?_
    unfold zq0
    split <;> rfl
  ·intro n i hi hp0
   have hlt:(i:Int)<(g.2.length:Int):=by omega
   have hw:=zd (i:=i) (by omega)
   obtain ⟨p1,p2,p3⟩:=hPg i hi
   have hne:¬ g.2.getD i 0=(C:Int):=by simpa using hp0
   have hc:0≤g.2.getD i 0∧(g.2.getD i 0).toNat<C:=⟨p2,by omega⟩
   have hiR:i<R:=by omega
   have hgx:(z6c g.1 C g.2 i)[(g.2.getD i 0).toNat]?=some ((z6c g.1 C g.2 i)[(g.2.getD i 0).toNat]'(by rw [zjp]; exact hc.2)):=List.getElem?_eq_getElem _
   simp only [zar,hlt,decide_true,if_true,Int.natCast_nonneg,Int.toNat_natCast,hi,and_self,p1,Option.bind_some,h.cols,hne,decide_false,Bool.false_eq_true,if_false,z8d,hiR,z6m g.1 hiR,zdf g.1 i (show C<C+1 by omega),zjp,hc,hgx,hw]
   rfl
  ·intro n i hi hp0
   have hlt:(i:Int)<(g.2.length:Int):=by omega
   obtain ⟨p1,p2,p3⟩:=hPg i hi
   have hne:g.2.getD i 0=(C:Int):=by simpa using hp0
   simp only [zar,hlt,decide_true,if_true,Int.natCast_nonneg,Int.toNat_natCast,hi,and_self,p1,Option.bind_some,h.cols,hne]
  ·intro n
   simp only [zar,Int.lt_irrefl,decide_false,Bool.false_eq_true,if_false]
def zdm (s:She) (j:Nat) (t:List Int) (i i2:Nat):Bool:=decide (sqS s j t i i2=sqS s j t i2 i)
def z6q (s:She) (j:Nat) (t:List Int) (i:Nat):Bool:=(List.range (t.length-(i+1))).all fun d=>zdm s j t i (i+1+d)
def z50 (s:She) (j:Nat):Bool:=match s.1[j]? with
 | some t=>if 2<t.length then (List.range t.length).all (z6q s j t) else true
 | none=>true
theorem zh5 {k:Nat} (hk:KK≤k) {s:She} (hs:smallSh s) (h:zy k s=true) {j:Nat} {t:List Int} (hj:s.1[j]?=some t) (h3:2<t.length) {i i2:Nat} (hi:i<t.length) (hi2:i2<t.length) (hne:i≠i2):(sqS s j t i i2).2.2.2.length≤1048576:=by
 obtain ⟨R,K,C,m1,m2,m3,_⟩:=zu2 hk hs h hj h3 hi hi2 hne
 rw [← m3,z1q3]
 have:R*C≤32*32:=Nat.mul_le_mul m1.r32 m2.c32
 omega
theorem zu4 {k:Nat} (hk:KK≤k) {s:She} (hs:smallSh s) (h:zy k s=true) {j:Nat} {t:List Int} (hj:s.1[j]?=some t) (h3:2<t.length) {i:Nat} (hi:i<t.length) (E:She→Int→Int→Int→Option (Int×Int×Int)) :
  (z6q s j t i=true→z3j k k s (j:Int) (t.length:Int) (i:Int) ((i+1:Nat):Int) E=E s (j:Int) (t.length:Int) (i:Int))∧(z6q s j t i=false→∃ a b:Int,z3j k k s (j:Int) (t.length:Int) (i:Int) ((i+1:Nat):Int) E=some ((j:Int),a,b)):=by
 have hK:=zg
 obtain ⟨hC,_,_⟩:=z1a hk h
 have h4:=(hC.simp t (List.mem_of_getElem? hj)).len4
 have key:=zbb (L:=fun n z=>z3j k n s (j:Int) (t.length:Int) (i:Int) (((i+1:Nat):Int)+z) E) (b:=t.length-(i+1)) (p:=fun d=>zdm s j t i (i+1+d)) (e:=E s (j:Int) (t.length:Int) (i:Int)) (Q:=fun r=>∃ a b:Int,r=some ((j:Int),a,b)) ?_ ?_ ?_ (n:=k) (by omega)
 ·rw [Int.add_zero] at key
  exact key
 ·intro n d hd hp
  have e1:((i+1:Nat):Int)+(d:Int)=((i+1+d:Nat):Int):=by omega
  have e2:((i+1:Nat):Int)+((d+1:Nat):Int)=((i+1+d+1:Nat):Int):=by omega
  have hlt:((i+1+d:Nat):Int)<(t.length:Int):=by omega
  have hw:=zd (i:=i+1+d) (by omega)
  have hsq:decide (sqS s j t i (i+1+d)=sqS s j t (i+1+d) i)=true:=hp
  show z3j k (n+1) s (j:Int) (t.length:Int) (i:Int) (((i+1:Nat):Int)+(d:Int)) E=z3j k n s (j:Int) (t.length:Int) (i:Int) (((i+1:Nat):Int)+((d+1:Nat):Int)) E
  rw [e1,e2]
  simp only [z3j,hlt,decide_true,if_true,zbc hk hs h hj h3 hi (show i+1+d<t.length by omega) (by omega),zbc hk hs h hj h3 (show i+1+d<t.length by omega) hi (by omega),Option.bind_some,zpz hk (zh5 hk hs h hj h3 hi (show i+1+d<t.length by omega) (by omega)),hsq,Bool.not_true,Bool.false_eq_true,if_false,hw]
 ·intro n d hd hp
  have e1:((i+1:Nat):Int)+(d:Int)=((i+1+d:Nat):Int):=by omega
  have hlt:((i+1+d:Nat):Int)<(t.length:Int):=by omega
  have hsq:decide (sqS s j t i (i+1+d)=sqS s j t (i+1+d) i)=false:=hp
  refine ⟨(i:Int),((i+1+d:Nat):Int),?_⟩
  show z3j k (n+1) s (j:Int) (t.length:Int) (i:Int) (((i+1:Nat):Int)+(d:Int)) E=_
  rw [e1]
  simp only [z3j,hlt,decide_true,if_true,zbc hk hs h hj h3 hi (show i+1+d<t.length by omega) (by omega),zbc hk hs h hj h3 (show i+1+d<t.length by omega) hi (by omega),Option.bind_some,zpz hk (zh5 hk hs h hj h3 hi (show i+1+d<t.length by omega) (by omega)),hsq,Bool.not_false]
 ·intro n
  have e1:((i+1:Nat):Int)+((t.length-(i+1):Nat):Int)=(t.length:Int):=by omega
  show z3j k (n+1) s (j:Int) (t.length:Int) (i:Int) (((i+1:Nat):Int)+((t.length-(i+1):Nat):Int)) E=_
  rw [e1]
  simp only [z3j,Int.lt_irrefl,decide_false,Bool.false_eq_true,if_false]
theorem z188 {k:Nat} (hk:KK≤k) {s:She} (hs:smallSh s) (h:zy k s=true) {j:Nat} {t:List Int} (hj:s.1[j]?=some t) (E:She→Int→Option (Int×Int×Int)) :
  (z50 s j=true→z4e k k s (j:Int) (t.length:Int) 0 E=E s (j:Int))∧(z50 s j=false→∃ a b:Int,z4e k k s (j:Int) (t.length:Int) 0 E=some ((j:Int),a,b)):=by
 have hK:=zg
 obtain ⟨hC,_,_⟩:=z1a hk h
 have h4:=(hC.simp t (List.mem_of_getElem? hj)).len4
 unfold z50
 rw [hj]
 simp only
 by_cases h3:2<t.length
 ·rw [if_pos h3]
  refine zbb (L:=fun n i=>z4e k n s (j:Int) (t.length:Int) i E) (b:=t.length) (p:=z6q s j t) (e:=E s (j:Int)) (Q:=fun r=>∃ a b:Int,r=some ((j:Int),a,b)) ?_ ?_ ?_ (n:=k) (by omega)
  ·intro n i hi hp
   have hlt:(i:Int)<(t.length:Int):=by omega
   have hlt3:(2:Int)<(t.length:Int):=by omega
   have hw:=zd (i:=i) (by omega)
   have:=(zu4 hk hs h hj h3 hi (fun s_2 k_3 n_4 i_5=>z4e k n s_2 k_3 n_4 (z6 (i_5+1)) E)).1 hp
   simp only [z4e,hlt,hlt3,decide_true,if_true,hw,this]
  ·intro n i hi hp
   have hlt:(i:Int)<(t.length:Int):=by omega
   have hlt3:(2:Int)<(t.length:Int):=by omega
   have hw:=zd (i:=i) (by omega)
   obtain ⟨a,b,this⟩:=(zu4 hk hs h hj h3 hi (fun s_2 k_3 n_4 i_5=>z4e k n s_2 k_3 n_4 (z6 (i_5+1)) E)).2 hp
   refine ⟨a,b,?_⟩
   simp only [z4e,hlt,hlt3,decide_true,if_true,hw,this]
  ·intro n
   simp only [z4e,Int.lt_irrefl,decide_false,Bool.false_eq_true,if_false]
 ·rw [if_neg h3]
  refine ⟨fun _=>?_,fun z=>by cases z⟩
  obtain ⟨n,rfl⟩:∃ n,k=n+1:=⟨k-1,by omega⟩
  have hlt3:¬ (2:Int)<(t.length:Int):=by omega
  simp only [z4e,hlt3,decide_false,Bool.false_eq_true,if_false,ite_self]
theorem z189 {k:Nat} (hk:KK≤k) {s:She} (hs:smallSh s) (h:zy k s=true) {j:Nat} {t:List Int} (hj:s.1[j]?=some t) (h3:2<t.length) {i:Nat} (hi:i<t.length) (x15:List (List Int)) (x16 x17 x31 x32:Int) (E:List Int→Int→List (List Int)→Int→Int→Int→Int→List Int→She→Option (Int×Int×Bool)) :
  (z6q s j t i=true→z32 k k t (j:Int) (i:Int) ((i+1:Nat):Int) x15 x16 x17 x31 x32 ((ze s.1 t).map fun i:Nat=>(i:Int)) s E=E t (j:Int) x15 x16 x17 x31 x32 ((ze s.1 t).map fun i:Nat=>(i:Int)) s)∧(z6q s j t i=false→∃ a b:Int,z32 k k t (j:Int) (i:Int) ((i+1:Nat):Int) x15 x16 x17 x31 x32 ((ze s.1 t).map fun i:Nat=>(i:Int)) s E=some (a,b,true)):=by
 have hK:=zg
 obtain ⟨hC,_,_⟩:=z1a hk h
 have h4:=(hC.simp t (List.mem_of_getElem? hj)).len4
 have hF:∀ i,i<t.length→i<(ze s.1 t).length∧((ze s.1 t).map fun i:Nat=>(i:Int))[i]?=some (((ze s.1 t).getD i 0:Nat):Int):=fun i hi=>by
  obtain ⟨f1,f2,_⟩:=zjo hC hj h3 hi
  exact ⟨by omega,by rw [List.getElem?_map,f2]; rfl⟩
 have step:∀ n d,d<t.length-(i+1)→z32 k (n+1) t (j:Int) (i:Int) ((i+1+d:Nat):Int) x15 x16 x17 x31 x32 ((ze s.1 t).map fun i:Nat=>(i:Int)) s E=(if (!decide (sqS s j t i (i+1+d)=sqS s j t (i+1+d) i))=true then (z9i k s.1 (((ze s.1 t).getD i 0:Nat):Int)).bind fun r_15=>(if 0≤((i+1+d-1:Nat):Int)∧(((i+1+d-1:Nat):Int)).toNat<List.length r_15 then (r_15[(((i+1+d-1:Nat):Int)).toNat]?).bind fun y_16=>some ((j:Int),y_16,true) else none) else z32 k n t (j:Int) (i:Int) ((i+1+d+1:Nat):Int) x15 x16 x17 x31 x32 ((ze s.1 t).map fun i:Nat=>(i:Int)) s E):=by
  intro n d hd
  have hi2:i+1+d<t.length:=by omega
  have hlt:((i+1+d:Nat):Int)<(t.length:Int):=by omega
  have hw:=zd (i:=i+1+d) (by omega)
  have hw1:z6 (((i+1+d:Nat):Int)-1)=((i+1+d-1:Nat):Int):=by rw [zf (by omega) (by omega)]; omega
  obtain ⟨a1,a2,a3⟩:=zpy hk hs h hj h3 hi hi2 (by omega)
  obtain ⟨b1,b2,b3⟩:=zpy hk hs h hj h3 hi2 hi (by omega)
  rw [if_pos (by omega)] at a2 a3
  rw [if_neg (by omega)] at b2 b3
  obtain ⟨g1,g2⟩:=hF i hi
  obtain ⟨g3,g4⟩:=hF (i+1+d) hi2
  simp only [z32,hlt,decide_true,if_true,a1,Option.bind_some,List.length_map,Int.natCast_nonneg,Int.toNat_natCast,g1,and_self,g2,hw1,a2,a3,b1,g3,g4,b2,b3,z185 hk (zh5 hk hs h hj h3 hi hi2 (by omega)),hw]
 have key:=zbb (L:=fun n z=>z32 k n t (j:Int) (i:Int) (((i+1:Nat):Int)+z) x15 x16 x17 x31 x32 ((ze s.1 t).map fun i:Nat=>(i:Int)) s E) (b:=t.length-(i+1)) (p:=fun d=>zdm s j t i (i+1+d)) (e:=E t (j:Int) x15 x16 x17 x31 x32 ((ze s.1 t).map fun i:Nat=>(i:Int)) s) (Q:=fun r=>∃ a b:Int,r=some (a,b,true)) ?_ ?_ ?_ (n:=k) (by omega)
 ·rw [Int.add_zero] at key
  exact key
 ·intro n d hd hp
  have e1:((i+1:Nat):Int)+(d:Int)=((i+1+d:Nat):Int):=by omega
  have e2:((i+1:Nat):Int)+((d+1:Nat):Int)=((i+1+d+1:Nat):Int):=by omega
  have hp':decide (sqS s j t i (i+1+d)=sqS s j t (i+1+d) i)=true:=hp
  show z32 k (n+1) t (j:Int) (i:Int) (((i+1:Nat):Int)+(d:Int)) x15 x16 x17 x31 x32 ((ze s.1 t).map fun i:Nat=>(i:Int)) s E=z32 k n t (j:Int) (i:Int) (((i+1:Nat):Int)+((d+1:Nat):Int)) x15 x16 x17 x31 x32 ((ze s.1 t).map fun i:Nat=>(i:Int)) s E
  rw [e1,e2,step n d hd,if_neg (by rw [hp']; simp)]
 ·intro n d hd hp
  have e1:((i+1:Nat):Int)+(d:Int)=((i+1+d:Nat):Int):=by omega
  have hp':decide (sqS s j t i (i+1+d)=sqS s j t (i+1+d) i)=false:=hp
  obtain ⟨_,_,f,f3,f4,f5⟩:=zjo hC hj h3 hi
  have hlen:i+1+d-1<(ze s.1 f).length:=by omega
  have hgf:((ze s.1 f).map fun i:Nat=>(i:Int))[i+1+d-1]?=some (((ze s.1 f)[i+1+d-1]:Nat):Int):=by rw [List.getElem?_map,List.getElem?_eq_getElem hlen]; rfl
  refine ⟨(j:Int),(((ze s.1 f)[i+1+d-1]:Nat):Int),?_⟩
  show z32 k (n+1) t (j:Int) (i:Int) (((i+1:Nat):Int)+(d:Int)) x15 x16 x17 x31 x32 ((ze s.1 t).map fun i:Nat=>(i:Int)) s E=_
  rw [e1,step n d hd,if_pos (by rw [hp']; rfl),zb8 hk hC f3]
  simp only [Option.bind_some,List.length_map,Int.natCast_nonneg,Int.toNat_natCast,hlen,and_self,if_true,hgf]
 ·intro n
  have e1:((i+1:Nat):Int)+((t.length-(i+1):Nat):Int)=(t.length:Int):=by omega
  show z32 k (n+1) t (j:Int) (i:Int) (((i+1:Nat):Int)+((t.length-(i+1):Nat):Int)) x15 x16 x17 x31 x32 ((ze s.1 t).map fun i:Nat=>(i:Int)) s E=_
  rw [e1]
  simp only [z32,Int.lt_irrefl,decide_false,Bool.false_eq_true,if_false]
theorem z18a {k:Nat} (hk:KK≤k) {l:List Int} (hl:l.length≤1000000000) (x:Int):zcx k l x=some (l.contains x):=by
 have hK:=zg
 unfold zcx
 have:=zls (L:=fun n i=>zga k n l x i (some false)) (p:=fun y=>!decide (y=x)) (r:=some true) (e:=some false) l ?_ ?_ (n:=k) (by omega)
 ·refine Eq.trans this ?_
  by_cases h:l.contains x=true
  ·rw [h,if_neg]
   rw [List.all_eq_true]
   intro q
   have:=q x (List.contains_iff_mem.1 h)
   simp at this
  ·have h':l.contains x=false:=by simpa using h
   rw [h',if_pos]
   rw [List.all_eq_true]
   intro y hy
   have:y≠x:=fun e=>h (List.contains_iff_mem.2 (e▸hy))
   simpa using this
 ·intro n i y hi hlt
  have hw:=zd (i:=i) (by omega)
  simp only [zga,hlt,decide_true,if_true,Int.natCast_nonneg,Int.toNat_natCast,hi,Option.bind_some,hw]
  by_cases e:y=x <;> simp [e]
 ·intro n
  simp only [zga,Int.lt_irrefl,decide_false,Bool.false_eq_true,if_false]
theorem z18b {k:Nat} (hk:KK≤k) {l:List Int} (hl:l.length≤1000000000) (x:Int):zcc k l x=some (l.contains x):=by
 have hK:=zg
 unfold zcc zsa
 rw [zap (L:=fun n i=>zfi k n l x (l.length:Int) i (some (-1))) (p:=fun y=>decide (x=y)) l ?_ ?_ (n:=k) (by omega)]
 ·rw [Option.bind_some,zde]
  congr 1
  rw [Bool.eq_iff_iff,List.any_eq_true,List.contains_iff_mem]
  constructor
  ·rintro ⟨y,hy,h⟩; rw [of_decide_eq_true h]; exact hy
  ·intro h; exact ⟨x,h,decide_eq_true rfl⟩
 ·intro n i y hi hlt
  have hw:=zd (i:=i) (by omega)
  simp only [zfi,hlt,decide_true,if_true,Int.natCast_nonneg,Int.toNat_natCast,hi,Option.bind_some,hw]
 ·intro n
  simp [zfi]
theorem z18c {d:Nat} (h:d<10):z_u8 (UInt8.ofNat (48+d))=((48+d:Nat):Int):=by
 have:(UInt8.ofNat (48+d)).toNat=48+d:=by simp [UInt8.toNat_ofNat']; omega
 show ((UInt8.ofNat (48+d)).toNat:Int)=_
 rw [this]
theorem zu5 {d:Nat} (h:d<10):zan (z6 (48+(d:Int)))=((48+d:Nat):Int):=by
 rw [zf (by omega) (by omega)]
 unfold zan IntKind.wrap
 simp [IntKind.bits,IntKind.signed]; omega
def z3c (u:Nat):List Int:=if u=0 then [] else ((Lib.decDigits u).map z_u8).reverse
theorem zq1 {u:Nat} (h:u≠0):z3c u=((48+u % 10:Nat):Int)::z3c (u / 10):=by
 unfold z3c
 rw [if_neg h]
 by_cases h1:u<10
 ·rw [Lib.decDigits,dif_pos h1,if_pos (by omega)]
  have:=z18c h1
  rw [Nat.mod_eq_of_lt h1,List.map_cons,List.map_nil,this]
  rfl
 ·rw [Lib.decDigits,dif_neg h1,if_neg (by omega)]
  have:=z18c (d:=u % 10) (by omega)
  rw [List.map_append,List.map_cons,List.map_nil,this,List.reverse_append]
  rfl
theorem zu6:∀ (j u:Nat),u<10 ^ j→(z3c u).length≤j
 | 0,u,h=>by
  have:u=0:=by simpa using h
  subst this; simp [z3c]
 | j+1,u,h=>by
  by_cases h0:u=0
  ·subst h0; simp [z3c]
  ·rw [zq1 h0,List.length_cons]
   have:=zu6 j (u / 10) (by rw [Nat.pow_succ] at h; omega)
   omega
theorem zu7 {k:Nat} {n0:Int} {E:Int→List Int→Option (List UInt8)}:∀ (j u n:Nat) (m:Int) (q:List Int),(m=(u:Int)∨m = -(u:Int))→u<10 ^ j→u≤9223372036854775808 → -9223372036854775808≤m→m≤9223372036854775807→q.length+j≤100→j<n→z9e k n n0 m q E=E n0 (q++z3c u)
 | j,u,0,m,q,_,_,_,_,_,_,h=>by omega
 | 0,u,n+1,m,q,hm,hu,_,_,_,_,_=>by
  have h0:u=0:=by simpa using hu
  subst h0
  have hm0:m=0:=by omega
  subst hm0
  simp [z9e,z3c]
 | j+1,u,n+1,m,q,hm,hu,hub,hm1,hm2,hq,hn=>by
  have hL:=z1p
  by_cases h0:u=0
  ·subst h0
   have hm0:m=0:=by omega
   subst hm0
   simp [z9e,z3c]
  ·have hm0:¬ m=0:=by omega
   have hlim:(q.length+1)*1≤LIM:=by omega
   have hd:u % 10<10:=by omega
   have hj:u / 10<10 ^ j:=by rw [Nat.pow_succ] at hu; omega
   rcases hm with hm | hm
   ·subst hm
    have t1:Int.tmod (u:Int) 10=((u % 10:Nat):Int):=by rw [Int.tmod_eq_emod_of_nonneg (by omega)]; omega
    have t2:Int.tdiv (u:Int) 10=((u / 10:Nat):Int):=by rw [Int.tdiv_eq_ediv_of_nonneg (by omega)]; omega
    have w2:z6 ((u / 10:Nat):Int)=((u / 10:Nat):Int):=zf (by omega) (by omega)
    have hlt:¬ (((u % 10:Nat):Int)<0):=by omega
    have ih:=zu7 (k:=k) (n0:=n0) (E:=E) j (u / 10) n ((u / 10:Nat):Int) (q++[((48+u % 10:Nat):Int)]) (.inl rfl) hj (by omega) (by omega) (by omega) (by simp; omega) (by omega)
    unfold z9e
    rw [decide_eq_false hm0,if_pos (by rfl),t1,t2,decide_eq_false hlt,if_neg (by simp),zu5 hd,w2,List.length_singleton,if_pos hlim,ih,List.append_assoc,zq1 h0]
    rfl
   ·subst hm
    have t1:Int.tmod (-(u:Int)) 10 = -((u % 10:Nat):Int):=by rw [Int.neg_tmod,Int.tmod_eq_emod_of_nonneg (by omega)]; omega
    have t2:Int.tdiv (-(u:Int)) 10 = -((u / 10:Nat):Int):=by rw [Int.neg_tdiv,Int.tdiv_eq_ediv_of_nonneg (by omega)]; omega
    have w2:z6 (-((u / 10:Nat):Int)) = -((u / 10:Nat):Int):=zf (by omega) (by omega)
    have ih:=zu7 (k:=k) (n0:=n0) (E:=E) j (u / 10) n (-((u / 10:Nat):Int)) (q++[((48+u % 10:Nat):Int)]) (.inr rfl) hj (by omega) (by omega) (by omega) (by simp; omega) (by omega)
    unfold z9e
    rw [decide_eq_false hm0,if_pos (by rfl),t1,t2,w2]
    by_cases hz:u % 10=0
    ·have hlt:¬ (-((u % 10:Nat):Int)<0):=by omega
     have hw:zan (z6 (48 + -((u % 10:Nat):Int)))=((48+u % 10:Nat):Int):=by
      rw [hz]
      exact zu5 (d:=0) (by omega)
     rw [decide_eq_false hlt,if_neg (by simp),hw,List.length_singleton,if_pos hlim,ih,List.append_assoc,zq1 h0]
     rfl
    ·have hlt : -((u % 10:Nat):Int)<0:=by omega
     have hw:zan (z6 (48+z6 (0 - -((u % 10:Nat):Int))))=((48+u % 10:Nat):Int):=by
      rw [show (0:Int) - -((u % 10:Nat):Int)=((u % 10:Nat):Int) by omega,zf (x:=((u % 10:Nat):Int)) (by omega) (by omega)]
      exact zu5 hd
     rw [decide_eq_true hlt,if_pos rfl,hw,List.length_singleton,if_pos hlim,ih,List.append_assoc,zq1 h0]
     rfl
theorem zu8 {k:Nat} {q:List Int} (hq:q.length≤1000) {E:List Int→Option (List UInt8)}:∀ (j n:Nat) (acc:List Int),j≤q.length→acc.length+j≤1000→j<n→zck k n ((j:Int)-1) q acc E=E (acc++(q.take j).reverse)
 | j,0,_,_,_,h=>by omega
 | 0,n+1,acc,_,_,_=>by
  have:¬ (0≤((0:Nat):Int)-1):=by omega
  simp only [zck,this,decide_false,Bool.false_eq_true,if_false,List.take_zero,List.reverse_nil,List.append_nil]
 | j+1,n+1,acc,hj,ha,hn=>by
  have hL:=z1p
  have e0:((j+1:Nat):Int)-1=(j:Int):=by omega
  have hjl:j<q.length:=by omega
  have ew:z6 ((j:Int)-1)=(j:Int)-1:=zf (by omega) (by omega)
  have hlim:(acc.length+1)*1≤LIM:=by omega
  have ih:=zu8 (k:=k) hq (E:=E) j n (acc++[q[j]]) (by omega) (by simp; omega) (by omega)
  rw [e0]
  simp only [zck,Int.natCast_nonneg,decide_true,if_true,Int.toNat_natCast,hjl,and_self,List.getElem?_eq_getElem hjl,Option.bind_some,List.length_singleton,hlim,ew,ih]
  rw [List.take_succ_eq_append_getElem hjl,List.reverse_append]
  simp
theorem z18d (l:List UInt8):zf1 (l.map z_u8)=l:=by
 unfold zf1
 rw [List.map_map]
 have:((fun x:Int=>x.toNat.toUInt8) ∘ z_u8)=id:=by
  funext b
  simp [z_u8]
 simp [this]
theorem z18e {k:Nat} (hk:KK≤k) {n:Int} (h1 : -9223372036854775808≤n) (h2:n≤9223372036854775807):zg2 k n=some (Lib.itoa n):=by
 have hK:=zg
 have hL:=z1p
 unfold zg2 Lib.itoa
 by_cases h0:n=0
 ·subst h0
  rw [decide_eq_true rfl,if_pos rfl,if_neg (by omega)]
  rw [show (0:Int).toNat=0 from rfl,Lib.decDigits,dif_pos (by omega)]
  rfl
 ·have hp:n.natAbs<10 ^ 19:=by
   have:n.natAbs≤9223372036854775808:=by omega
   exact Nat.lt_of_le_of_lt this (by decide)
  have hl:=zu6 19 n.natAbs hp
  have hu:n.natAbs≠0:=by omega
  have hr:z3c n.natAbs=((Lib.decDigits n.natAbs).map z_u8).reverse:=by unfold z3c; rw [if_neg hu]
  rw [decide_eq_false h0,if_neg (by simp),zu7 19 n.natAbs k n [] (by omega) hp (by omega) h1 h2 (by simp) (by omega),List.nil_append]
  by_cases hn:n<0
  ·have hl1:((z3c n.natAbs).length+1)*1≤LIM:=by omega
   have hb:=zu8 (k:=k) (q:=z3c n.natAbs++[45]) (by simp; omega) (E:=fun q=>some (zf1 q)) (z3c n.natAbs++[45]).length k [] (Nat.le_refl _) (by simp; omega) (by simp; omega)
   have hw:z6 (((z3c n.natAbs++[45]).length:Int)-1)=((z3c n.natAbs++[45]).length:Int)-1:=zf (by omega) (by simp; omega)
   rw [decide_eq_true hn,if_pos rfl,if_pos hn,List.length_singleton,if_pos hl1,hw,hb,List.take_length,List.nil_append,hr]
   congr 1
   have e:(((Lib.decDigits n.natAbs).map z_u8).reverse++[(45:Int)]).reverse=((45:UInt8)::Lib.decDigits n.natAbs).map z_u8:=by
    rw [List.reverse_append,List.reverse_reverse]; rfl
   rw [e,z18d]
  ·have hb:=zu8 (k:=k) (q:=z3c n.natAbs) (by omega) (E:=fun q=>some (zf1 q)) (z3c n.natAbs).length k [] (Nat.le_refl _) (by simp; omega) (by omega)
   have hw:z6 (((z3c n.natAbs).length:Int)-1)=((z3c n.natAbs).length:Int)-1:=zf (by omega) (by omega)
   have hna:n.natAbs=n.toNat:=by omega
   rw [decide_eq_false hn,if_neg (by simp),if_neg hn,hw,hb,List.take_length,List.nil_append,hr,List.reverse_reverse,z18d,hna]
theorem z18f {n:Int} (h1 : -9223372036854775808≤n) (h2:n≤9223372036854775807):ziw n=some (Lib.itoa n):=by
 unfold ziw z15u
 rw [if_pos ⟨rfl,h1,h2⟩]; rfl
theorem z1q8 {pre:List (List UInt8)} (h:pre≠[]) (x sep:List UInt8):Lib.join (pre++[x]) sep=Lib.join pre sep++sep++x:=by
 cases pre with
 | nil=>exact absurd rfl h
 | cons y r =>
  rw [List.cons_append,Lib.join_cons,Lib.join_cons]
  unfold Lib.joinTail
  simp
theorem zq2 {u j:Nat} (h:u<10 ^ j) (hj:1≤j):(Lib.decDigits u).length≤j:=by
 by_cases h0:u=0
 ·subst h0; rw [Lib.decDigits,dif_pos (by omega)]; exact hj
 ·have:=zu6 j u h
  unfold z3c at this
  rw [if_neg h0] at this
  simpa using this
theorem z18g {c:UInt8} {B:Nat}:∀ (r:List (List UInt8)),(∀ w∈r,w.length≤B)→(Lib.joinTail [c] r).length≤r.length*(B+1)
 | [],_=>by simp [Lib.joinTail]
 | y::r,h=>by
  have e:Lib.joinTail [c] (y::r)=[c]++y++Lib.joinTail [c] r:=by simp [Lib.joinTail]
  have h1:=z18g (c:=c) r fun w hw=>h w (by simp [hw])
  have h2:=h y (by simp)
  rw [e,List.length_append,List.length_append,List.length_singleton,List.length_cons,Nat.succ_mul]
  omega
theorem zu9 {c:UInt8} {B:Nat} (ws:List (List UInt8)) (h:∀ w∈ws,w.length≤B):(Lib.join ws [c]).length≤ws.length*(B+1):=by
 cases ws with
 | nil=>rw [Lib.join_nil]; simp
 | cons y r =>
  have h1:=z18g (c:=c) (B:=B) r fun w hw=>h w (by simp [hw])
  have h2:=h y (by simp)
  rw [Lib.join_cons,List.length_append,List.length_cons,Nat.succ_mul]
  omega
theorem z1q9 {sep:List UInt8} {ws:List (List UInt8)} (h:∀ w∈ws,w≠[]):Lib.join ws sep=[]↔ws=[]:=by
 cases ws with
 | nil=>rw [Lib.join_nil]; simp
 | cons y r =>
  rw [Lib.join_cons]
  exact ⟨fun z=>absurd (List.append_eq_nil_iff.1 z).1 (h y (by simp)),fun z=>by cases z⟩
theorem z1qa (x sep:List UInt8):Lib.join [x] sep=x:=by rw [Lib.join_cons]; simp [Lib.joinTail]
theorem z1qb (u:Nat):Lib.decDigits u≠[]:=by
 rw [Lib.decDigits]
 split <;> simp
theorem z18h {n:Int} (h:0≤n∧n<10000000):(Lib.itoa n).length≤7∧Lib.itoa n≠[]:=by
 unfold Lib.itoa
 rw [if_neg (by omega)]
 exact ⟨zq2 (by omega) (by omega),z1qb _⟩
def z3v (l:List Int):List UInt8:=if l=[] then [45] else Lib.join (l.map Lib.itoa) [44]
def zdn (l:List Int):Prop:=l.length≤64∧∀ x∈l,0≤x∧x<10000000
theorem zq3 {l:List Int} (h:zdn l):∀ w∈l.map Lib.itoa,w.length≤7∧w≠[]:=fun w hw=>by
 obtain ⟨x,hx,rfl⟩:=List.mem_map.1 hw
 exact z18h (h.2 x hx)
theorem zq4 {l:List Int} (h:zdn l):(z3v l).length≤512∧z3v l≠[]:=by
 unfold z3v
 by_cases e:l=[]
 ·rw [if_pos e]; simp
 ·rw [if_neg e]
  have h1:=zu9 (c:=44) (l.map Lib.itoa) fun w hw=>(zq3 h w hw).1
  rw [List.length_map] at h1
  have:=h.1
  refine ⟨by omega,fun z=>e ?_⟩
  have:=(z1q9 fun w hw=>(zq3 h w hw).2).1 z
  exact List.map_eq_nil_iff.1 this
theorem zq5 {k:Nat} (hk:KK≤k) {l:List Int} (h:zdn l):zcm k l=some (z3v l):=by
 have hK:=zg
 obtain ⟨hl,hx⟩:=h
 unfold zcm z3v
 by_cases e:l=[]
 ·subst e; simp
 rw [if_neg e]
 have hpos:0<l.length:=List.length_pos_iff.2 e
 rw [decide_eq_false (by omega),if_neg (by simp)]
 refine z29 (A:=List UInt8) (L:=fun n i out=>zcl k n l out i (fun out_5=>some out_5)) (I:=fun pre out=>out=Lib.join (pre.map Lib.itoa) [44]) (G:=fun _ _=>some (Lib.join (l.map Lib.itoa) [44])) l ?_ ?_ k (by omega) [] (by rw [List.map_nil,Lib.join_nil])
 ·intro n pre x post out hxp ho ih hg hlt
  have hw:=zd (i:=pre.length) (by omega)
  have hxx:=hx x (List.mem_of_getElem? hg)
  have hi:=(z18h hxx).1
  have hpre:zdn pre:=⟨by omega,fun y hy=>hx y (by rw [hxp]; simp [hy])⟩
  have hol:out.length≤512:=by
   rw [ho]
   have h1:=zu9 (c:=44) (pre.map Lib.itoa) fun w hw=>(zq3 hpre w hw).1
   rw [List.length_map] at h1
   have:=hpre.1
   omega
  have b1:out.length+1≤9223372036854775807:=by omega
  have b2:(out++[(44:UInt8)]).length+(Lib.itoa x).length≤9223372036854775807:=by rw [List.length_append,List.length_singleton]; omega
  have b3:out.length+(Lib.itoa x).length≤9223372036854775807:=by omega
  simp only [zcl,hlt,decide_true,if_true,List.length_singleton,b1,b2,b3,Int.natCast_nonneg,Int.toNat_natCast,hg,Option.bind_some,z18e hk (show -9223372036854775808≤x by omega) (show x≤9223372036854775807 by omega),hw]
  by_cases c:pre=[]
  ·subst c
   rw [decide_eq_false (by simp),if_neg (by simp)]
   refine ih _ ?_
   rw [ho,List.map_nil,Lib.join_nil,List.nil_append,List.nil_append,List.map_cons,List.map_nil,z1qa]
  ·have:0<pre.length:=List.length_pos_iff.2 c
   rw [decide_eq_true (by omega),if_pos rfl]
   refine ih _ ?_
   rw [List.map_append,List.map_cons,List.map_nil,z1q8 (by simpa using c),ho]
 ·intro n out ho
  subst ho
  simp only [zcl,Int.lt_irrefl,decide_false,Bool.false_eq_true,if_false]
theorem zq6 {k:Nat} (hk:KK≤k) {l:List Int} (h:zdn l):zc8 k l=some (z3v l):=by
 have hK:=zg
 have hL:=z1p
 have hwf:=zq3 h
 obtain ⟨hl,hx⟩:=h
 unfold zc8 z3v
 rw [decide_eq_false (by omega),if_neg (by simp)]
 have hc:zp9 k l ()=some false:=by
  unfold zp9 zte
  rw [zap (L:=fun n i=>zgt k n l () (l.length:Int) i (some (-1))) (p:=fun y=>!decide (-1000000000000≤y∧y≤1000000000000)) l ?_ ?_ (n:=k) (by omega)]
  ·rw [Option.bind_some,zde]
   congr 1
   rw [List.any_eq_false]
   intro y hy
   have:=hx y hy
   rw [decide_eq_true (by omega)]; simp
  ·intro n i y hi hlt
   have hw:=zd (i:=i) (by omega)
   simp only [zgt,ztd,ztc,z6l,hlt,decide_true,if_true,Int.natCast_nonneg,Int.toNat_natCast,hi,Option.bind_some,hw]
  ·intro n
   simp [zgt]
 rw [hc]
 simp only [Option.bind_some,Bool.false_eq_true,if_false]
 by_cases e:l=[]
 ·subst e; simp
 rw [if_neg e]
 have hpos:0<l.length:=List.length_pos_iff.2 e
 rw [decide_eq_false (by omega),if_neg (by simp)]
 refine z29 (A:=List (List UInt8)) (L:=fun n i q=>zgu k n l (l.length:Int) i q (fun q_5=>(ztf [44] q_5).bind fun y_6=>some y_6.1.1)) (I:=fun pre q=>q=pre.map Lib.itoa) (G:=fun _ _=>some (Lib.join (l.map Lib.itoa) [44])) l ?_ ?_ k (by omega) [] rfl
 ·intro n pre x post q hxp hq ih hg hlt
  have hw:=zd (i:=pre.length) (by omega)
  have hxx:=hx x (List.mem_of_getElem? hg)
  have b:(q.length+1)*16≤LIM:=by rw [hq,List.length_map]; omega
  simp only [zgu,hlt,decide_true,if_true,Int.natCast_nonneg,Int.toNat_natCast,hg,Option.bind_some,z18f (show -9223372036854775808≤x by omega) (show x≤9223372036854775807 by omega),List.length_singleton,b,hw]
  exact ih _ (by rw [hq,List.map_append]; rfl)
 ·intro n q hq
  subst hq
  have h1:=zu9 (c:=44) (l.map Lib.itoa) fun w hw=>(hwf w hw).1
  rw [List.length_map] at h1
  simp only [zgu,Int.lt_irrefl,decide_false,Bool.false_eq_true,if_false]
  unfold ztf
  rw [if_pos ⟨by rw [List.length_map]; omega,by omega⟩]
  rfl
theorem zua {b:Nat} {p:Nat→Bool} (h:(List.range b).all p=false):∃ i,i<b∧p i=false∧∀ x,x<i→p x=true:=by
 have key:∀ n,n≤b→(∀ x,x<n→p x=true)∨∃ i,i<n∧p i=false∧∀ x,x<i→p x=true:=by
  intro n
  induction n with
  | zero=>intro _; exact .inl fun x hx=>absurd hx (Nat.not_lt_zero _)
  | succ n ih =>
   intro hn
   rcases ih (by omega) with h1 | ⟨i,h1,h2,h3⟩
   ·cases hp:p n with
    | true =>
     refine .inl fun x hx=>?_
     rcases Nat.lt_or_ge x n with h4 | h4
     ·exact h1 x h4
     ·have:x=n:=by omega
      subst this; exact hp
    | false=>exact .inr ⟨n,by omega,hp,h1⟩
   ·exact .inr ⟨i,by omega,h2,h3⟩
 rcases key b (Nat.le_refl _) with h1 | ⟨i,h1,h2,h3⟩
 ·obtain ⟨x,hx,hpx⟩:=List.all_eq_false.1 h
  rw [h1 x (List.mem_range.1 hx)] at hpx
  simp at hpx
 ·exact ⟨i,h1,h2,h3⟩
theorem zh6 {R:Type} {L:Nat→Int→R} {b i0:Nat} {p:Nat→Bool} {e:R} (h0:i0<b) (hw:∀ x,x<i0→p x=true) (h1:∀ n (i:Nat),i<b→p i=true→L (n+1) (i:Int)=L n ((i+1:Nat):Int)) (h3:∀ n,L (n+1) (i0:Int)=e) {n:Nat} (hn:b<n):L n 0=e :=
 (zbb (L:=L) (b:=i0) (p:=p) (e:=e) (Q:=fun _=>True) (fun n i hi hp=>h1 n i (by omega) hp) (fun _ _ _ _=>trivial) h3 (show i0<n by omega)).1 (List.all_eq_true.2 fun x hx=>hw x (List.mem_range.1 hx))
structure FirstW (s:She) (j:Nat) (t:List Int) (i d:Nat):Prop where
 hj:s.1[j]?=some t
 h3:2<t.length
 hi:i<t.length
 hd:i+1+d<t.length
 j0:∀ x,x<j→z50 s x=true
 jn:z50 s j=false
 i0:∀ x,x<i→z6q s j t x=true
 ine:z6q s j t i=false
 d0:∀ x,x<d→zdm s j t i (i+1+x)=true
 dn:zdm s j t i (i+1+d)=false
theorem z1qc {s:She} (h:(List.range s.1.length).all (z50 s)=false):∃ j t i d,FirstW s j t i d:=by
 obtain ⟨j,hj,hjn,hj0⟩:=zua h
 have hg:s.1[j]?=some s.1[j]:=List.getElem?_eq_getElem hj
 have hc:=hjn
 unfold z50 at hc
 rw [hg] at hc
 simp only at hc
 by_cases h3:2<(s.1[j]).length
 ·rw [if_pos h3] at hc
  obtain ⟨i,hi,hin,hi0⟩:=zua hc
  have hr:=hin
  unfold z6q at hr
  obtain ⟨d,hd,hdn,hd0⟩:=zua hr
  exact ⟨j,_,i,d,hg,h3,hi,by omega,hj0,hjn,hi0,hin,hd0,hdn⟩
 ·rw [if_neg h3] at hc; cases hc
theorem z1qd {k:Nat} (hk:KK≤k) {s:She} (hs:smallSh s) (h:zy k s=true) {j i d:Nat} {t:List Int} (F:FirstW s j t i d) (E:She→Int→Int→Int→Option (Int×Int×Int)) :
  z3j k k s (j:Int) (t.length:Int) (i:Int) ((i+1:Nat):Int) E=some ((j:Int),(i:Int),((i+1+d:Nat):Int)):=by
 have hK:=zg
 obtain ⟨hC,_,_⟩:=z1a hk h
 have hj:=F.hj
 have h3:=F.h3
 have hi:=F.hi
 have hdd:=F.hd
 have h4:=(hC.simp t (List.mem_of_getElem? hj)).len4
 have key:=zh6 (L:=fun n z=>z3j k n s (j:Int) (t.length:Int) (i:Int) (((i+1:Nat):Int)+z) E) (b:=t.length-(i+1)) (i0:=d) (p:=fun d=>zdm s j t i (i+1+d)) (e:=some ((j:Int),(i:Int),((i+1+d:Nat):Int))) (by omega) F.d0 ?_ ?_ (n:=k) (by omega)
 ·rw [Int.add_zero] at key
  exact key
 ·intro n d hd hp
  have e1:((i+1:Nat):Int)+(d:Int)=((i+1+d:Nat):Int):=by omega
  have e2:((i+1:Nat):Int)+((d+1:Nat):Int)=((i+1+d+1:Nat):Int):=by omega
  have hlt:((i+1+d:Nat):Int)<(t.length:Int):=by omega
  have hw:=zd (i:=i+1+d) (by omega)
  have hsq:decide (sqS s j t i (i+1+d)=sqS s j t (i+1+d) i)=true:=hp
  show z3j k (n+1) s (j:Int) (t.length:Int) (i:Int) (((i+1:Nat):Int)+(d:Int)) E=z3j k n s (j:Int) (t.length:Int) (i:Int) (((i+1:Nat):Int)+((d+1:Nat):Int)) E
  rw [e1,e2]
  simp only [z3j,hlt,decide_true,if_true,zbc hk hs h hj h3 hi (show i+1+d<t.length by omega) (by omega),zbc hk hs h hj h3 (show i+1+d<t.length by omega) hi (by omega),Option.bind_some,zpz hk (zh5 hk hs h hj h3 hi (show i+1+d<t.length by omega) (by omega)),hsq,Bool.not_true,Bool.false_eq_true,if_false,hw]
 ·intro n
  have e1:((i+1:Nat):Int)+(d:Int)=((i+1+d:Nat):Int):=by omega
  have hlt:((i+1+d:Nat):Int)<(t.length:Int):=by omega
  have hsq:decide (sqS s j t i (i+1+d)=sqS s j t (i+1+d) i)=false:=F.dn
  show z3j k (n+1) s (j:Int) (t.length:Int) (i:Int) (((i+1:Nat):Int)+(d:Int)) E=_
  rw [e1]
  simp only [z3j,hlt,decide_true,if_true,zbc hk hs h hj h3 hi (show i+1+d<t.length by omega) (by omega),zbc hk hs h hj h3 (show i+1+d<t.length by omega) hi (by omega),Option.bind_some,zpz hk (zh5 hk hs h hj h3 hi (show i+1+d<t.length by omega) (by omega)),hsq,Bool.not_false]
theorem z1qe {k:Nat} (hk:KK≤k) {s:She} (hs:smallSh s) (h:zy k s=true) {j i d:Nat} {t:List Int} (F:FirstW s j t i d):zg1 k s=some ((j:Int),(i:Int),((i+1+d:Nat):Int)):=by
 have hK:=zg
 obtain ⟨hC,_,_⟩:=z1a hk h
 have hcl:=hC.len
 have hj:=F.hj
 have hjl:=(List.getElem?_eq_some_iff.1 hj).1
 have h4:=(hC.simp t (List.mem_of_getElem? hj)).len4
 have h3:=F.h3
 have l1:∀ E:She→Int→Option (Int×Int×Int),z4e k k s (j:Int) (t.length:Int) 0 E=some ((j:Int),(i:Int),((i+1+d:Nat):Int)):=by
  intro E
  refine zh6 (L:=fun n i=>z4e k n s (j:Int) (t.length:Int) i E) (b:=t.length) (i0:=i) (p:=z6q s j t) F.hi F.i0 ?_ ?_ (n:=k) (by omega)
  ·intro n i hi hp
   have hlt:(i:Int)<(t.length:Int):=by omega
   have hlt3:(2:Int)<(t.length:Int):=by omega
   have hw:=zd (i:=i) (by omega)
   have:=(zu4 hk hs h hj h3 hi (fun s_2 k_3 n_4 i_5=>z4e k n s_2 k_3 n_4 (z6 (i_5+1)) E)).1 hp
   simp only [z4e,hlt,hlt3,decide_true,if_true,hw,this]
  ·intro n
   have hi:=F.hi
   have hlt:(i:Int)<(t.length:Int):=by omega
   have hlt3:(2:Int)<(t.length:Int):=by omega
   have hw:=zd (i:=i) (by omega)
   simp only [z4e,hlt,hlt3,decide_true,if_true,hw,z1qd hk hs h F]
 unfold zg1
 refine zh6 (L:=fun n i=>z9d k n s i (some ((-1),0,0))) (b:=s.1.length) (i0:=j) (p:=z50 s) hjl F.j0 ?_ ?_ (n:=k) (by omega)
 ·intro n j hj hp
  have hlt:(j:Int)<(s.1.length:Int):=by omega
  have hw:=zd (i:=j) (by omega)
  have hg:s.1[j]?=some s.1[j]:=List.getElem?_eq_getElem hj
  simp only [z9d,hlt,decide_true,if_true,Int.natCast_nonneg,Int.toNat_natCast,hg,Option.bind_some,(z188 hk hs h hg _).1 hp,hw]
 ·intro n
  have hlt:(j:Int)<(s.1.length:Int):=by omega
  simp only [z9d,hlt,decide_true,if_true,Int.natCast_nonneg,Int.toNat_natCast,hj,Option.bind_some,l1]
theorem z1qf {k:Nat} (hk:KK≤k) {s:She} (hs:smallSh s) (h:zy k s=true) (ha:(List.range s.1.length).all (z50 s)=true):zg1 k s=some ((-1:Int),0,0):=by
 have hK:=zg
 obtain ⟨hC,_,_⟩:=z1a hk h
 have hcl:=hC.len
 unfold zg1
 refine (zbb (L:=fun n i=>z9d k n s i (some ((-1),0,0))) (b:=s.1.length) (p:=z50 s) (e:=some ((-1:Int),(0:Int),(0:Int))) (Q:=fun _=>True) ?_ (fun _ _ _ _=>trivial) ?_ (n:=k) (by omega)).1 ha
 ·intro n j hj hp
  have hlt:(j:Int)<(s.1.length:Int):=by omega
  have hw:=zd (i:=j) (by omega)
  have hg:s.1[j]?=some s.1[j]:=List.getElem?_eq_getElem hj
  simp only [z9d,hlt,decide_true,if_true,Int.natCast_nonneg,Int.toNat_natCast,hg,Option.bind_some,(z188 hk hs h hg _).1 hp,hw]
 ·intro n
  simp only [z9d,Int.lt_irrefl,decide_false,Bool.false_eq_true,if_false]
theorem z1qg {s:She} (hC:CxP s.1) {j:Nat} {t:List Int} (hj:s.1[j]?=some t) (h3:2<t.length) {i i2:Nat} (hi:i<t.length) (hi2:i2+1<t.length) :
  ∃ c:Nat,(ze s.1 t).length=t.length∧(ze s.1 t)[i]?=some ((ze s.1 t).getD i 0)∧s.1[(ze s.1 t).getD i 0]?=some (zw t i)∧(ze s.1 (zw t i))[i2]?=some c∧s.1[c]?=some (zw (zw t i) i2):=by
 have hm:=List.mem_of_getElem? hj
 have hfl:=z8i s.1 t
 rw [if_pos (by omega)] at hfl
 have hF:(ze s.1 t)[i]?=some (z2r s.1 (zw t i)):=by
  unfold ze z21
  rw [if_pos (by omega),List.getElem?_map,List.getElem?_map,List.getElem?_range hi]; rfl
 have hmem:=hC.face t hm (by omega) i hi
 have hdl:=z8g hi
 have hF2:(ze s.1 (zw t i))[i2]?=some (z2r s.1 (zw (zw t i) i2)):=by
  unfold ze z21
  rw [if_pos (by omega),List.getElem?_map,List.getElem?_map,List.getElem?_range (by omega)]; rfl
 have hmem2:=hC.face (zw t i) hmem (by omega) i2 (by omega)
 have hg:(ze s.1 t).getD i 0=z2r s.1 (zw t i):=by rw [List.getD_eq_getElem?_getD,hF]; rfl
 exact ⟨_,hfl,by rw [hg]; exact hF,by rw [hg]; exact zdj hmem,hF2,zdj hmem2⟩
end Go.Proofs.YtfinlkoplekgkaaGreatDoor.Ev
