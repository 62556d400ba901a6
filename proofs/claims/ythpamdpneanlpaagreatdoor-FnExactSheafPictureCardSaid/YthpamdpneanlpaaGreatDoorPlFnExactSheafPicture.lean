/- Plain laws of the printed functions. No conditions but those in each statement. -/
import Derived.Test.YthpamdpneanlpaaGreatDoorEv6
import Derived.Test.YthpamdpneanlpaaGreatDoorG10
set_option linter.unusedVariables false
set_option linter.unusedSimpArgs false
namespace Go.Proofs.YthpamdpneanlpaaGreatDoor.Ev
open Go.RowKit
theorem zde_ (n a b:Int):z6r_ n a b=some (decide (a≤n∧n≤b)):=by
 unfold z6r_
 by_cases h:a≤n <;> simp [h]
theorem zdf_ (n a b:Int):z59_ n a b=some (decide (a≤n∧n≤b)):=by
 unfold z59_
 by_cases h:a≤n <;> simp [h]
theorem zz8_ {k:Nat} {p:Int} (hp:p≤251):∀ (m d n:Nat),17-d≤m→2≤d→m<n→d≤17→∃ b,z5e_ k n p (d:Int) (some true)=some b∧z5i_ k n p (d:Int) (some true)=some b
 | m,d,0,_,_,h,_=>by omega
 | 0,d,n+1,h,h2,_,h4=>by
  have hd:d=17:=by omega
  subst hd
  have w1:z0_ (((17:Nat):Int)*((17:Nat):Int))=289:=by rw [w_id (by omega) (by omega)]; rfl
  have hc:¬ ((289:Int)≤p):=by omega
  refine ⟨true,?_,?_⟩
  ·unfold z5e_; rw [w1,decide_eq_false hc,if_neg (by simp)]
  ·unfold z5i_; rw [w1,decide_eq_false hc,if_neg (by simp)]
 | m+1,d,n+1,h,h2,hn,h4=>by
  by_cases hc:z0_ ((d:Int)*(d:Int))≤p
  ·have hd0:¬ ((d:Int)=0):=by omega
   have hw:=zf_ (i:=d) (by omega)
   by_cases hm:Int.tmod p (d:Int)=0
   ·refine ⟨false,?_,?_⟩
    ·unfold z5e_; rw [decide_eq_true hc,if_pos rfl,if_neg hd0,decide_eq_true hm,if_pos rfl]
    ·unfold z5i_; rw [decide_eq_true hc,if_pos rfl,if_neg hd0,decide_eq_true hm,if_pos rfl]
   ·by_cases h17:d=17
    ·subst h17
     have w1:z0_ (((17:Nat):Int)*((17:Nat):Int))=289:=by rw [w_id (by omega) (by omega)]; rfl
     rw [w1] at hc; omega
    ·obtain ⟨b,h5,h6⟩:=zz8_ (k:=k) hp m (d+1) n (by omega) (by omega) (by omega) (by omega)
     refine ⟨b,?_,?_⟩
     ·rw [← h5]; conv=>lhs; unfold z5e_
      rw [decide_eq_true hc,if_pos rfl,if_neg hd0,decide_eq_false hm,if_neg (by simp),hw]
     ·rw [← h6]; conv=>lhs; unfold z5i_
      rw [decide_eq_true hc,if_pos rfl,if_neg hd0,decide_eq_false hm,if_neg (by simp),hw]
  ·refine ⟨true,?_,?_⟩
   ·unfold z5e_; rw [decide_eq_false hc,if_neg (by simp)]
   ·unfold z5i_; rw [decide_eq_false hc,if_neg (by simp)]
theorem zz9_ {k:Nat} (hk:KK≤k) (p:Int):∃ b,z81_ k p=some b∧zax_ k p=some b∧(b=true→2≤p∧p≤251):=by
 have hK:=zg_
 unfold z81_ zmw_ zax_
 rw [zdf_,zde_]
 by_cases h:2≤p∧p≤251
 ·obtain ⟨b,h1,h2⟩:=zz8_ (k:=k) (p:=p) h.2 15 2 k (by omega) (by omega) (by omega) (by omega)
  have h1:z5e_ k k p 2 (some true)=some b:=h1
  have h2:z5i_ k k p 2 (some true)=some b:=h2
  refine ⟨b,?_,?_,fun _=>h⟩
  ·simp [h,h1]
  ·simp [h,h2]
 ·exact ⟨false,by simp [h],by simp [h],fun h=>by cases h⟩
theorem zk9_ {α:Type} (p:α→Bool) (xs:List α):decide (0≤idxP p xs)=xs.any p:=by
 unfold idxP
 cases h:xs.findIdx? p with
 | some i =>
  obtain ⟨hlt,hp,_⟩:=List.findIdx?_eq_some_iff_getElem.1 h
  have:xs.any p=true:=List.any_eq_true.2 ⟨_,List.getElem_mem hlt,hp⟩
  rw [this]; simp
 | none =>
  rw [List.findIdx?_eq_none_iff] at h
  have:xs.any p=false:=List.any_eq_false.2 fun x hx=>by rw [h x hx]; simp
  rw [this]; simp
abbrev Mat:=Int×Int×Int×List Int
theorem zza_ {k:Nat} (hk:KK≤k) {v:List Int} (hv:v.length≤1048576) (n:Int) {p:Int} (hp : -1000000≤p∧p≤1000000):zcz_ k v n p=some (v.all (fun x=>decide (0≤x∧x≤p-1))&&decide ((v.length:Int)=n)):=by
 have hK:=zg_
 have hw1:z0_ (p-1)=p-1:=w_id (by omega) (by omega)
 unfold zcz_
 have:=zcr_ (L:=fun m i=>zac_ k m v n p i (fun v_3 n_4=>some (decide ((List.length v_3:Int)=n_4)))) (p:=fun x=>decide (0≤x∧x≤p-1)) (r:=some false) (e:=some (decide ((v.length:Int)=n))) v ?_ ?_ (n:=k) (by omega)
 ·refine this.trans ?_
  cases v.all (fun x=>decide (0≤x∧x≤p-1)) <;> simp
 ·intro m i x hx hlt
  have hw:=zf_ (i:=i) (by omega)
  simp only [zac_,hlt,decide_true,if_true,Int.natCast_nonneg,Int.toNat_natCast,hx,Option.bind_some,zdf_,hw1,hw]
  by_cases c:0≤x∧x≤p-1 <;> simp [c]
 ·intro m
  simp only [zac_,Int.lt_irrefl,decide_false,Bool.false_eq_true,if_false]
theorem z1bh_ {k:Nat} (hk:KK≤k) {v:List Int} (hv:v.length≤1048576) {p:Int} (hp : -1000000≤p∧p≤1000000):zj2_ k v p=some (v.all (fun x=>decide (0≤x∧x≤p-1))):=by
 have hK:=zg_
 have hw1:z0_ (p-1)=p-1:=w_id (by omega) (by omega)
 unfold zj2_ zor_ zop_
 rw [zct_ (L:=fun n i=>zb4_ k n v p (v.length:Int) i (some (-1))) (p:=fun x=>!decide (0≤x∧x≤p-1)) v ?_ ?_ (n:=k) (by omega)]
 ·simp only [Option.bind_some,zk9_]
  congr 1
  rw [← List.not_all_eq_any_not,Bool.not_not]
 ·intro n i x hi hlt
  have hw:=zf_ (i:=i) (by omega)
  simp only [zb4_,zoo_,zon_,zde_,hw1,hlt,decide_true,if_true,Int.natCast_nonneg,Int.toNat_natCast,hi,Option.bind_some,hw]
 ·intro n
  simp [zb4_]
structure MatP (m:Mat) (R C:Nat):Prop where
 rows:m.2.1=(R:Int)
 cols:m.2.2.1=(C:Int)
 r32:R≤32
 c32:C≤32
 len:m.2.2.2.length=R*C
 prime:2≤m.1∧m.1≤251
 cells:∀ x∈m.2.2.2,0≤x∧x≤250
 lt:∀ x∈m.2.2.2,x<m.1
theorem z1bi_ {k:Nat} (hk:KK≤k) {m:Mat} (hv:m.2.2.2.length≤1048576):∃ b,zai_ k m=some b∧zdb_ k m=some b∧(b=true→∃ R C,MatP m R C):=by
 obtain ⟨b,h1,h2,h3⟩:=zz9_ hk m.1
 unfold zai_ zdb_ ziz_ z6u_
 rw [h1,h2]
 cases b
 ·exact ⟨false,by simp,by simp,fun h=>by cases h⟩
 ·have hp:=h3 rfl
  simp only [Option.bind_some,if_true,zdf_,zde_,zza_ hk hv _ (show -1000000≤m.1∧m.1≤1000000 by omega),z1bh_ hk hv (show -1000000≤m.1∧m.1≤1000000 by omega)]
  by_cases c1:0≤m.2.1∧m.2.1≤32
  ·by_cases c2:0≤m.2.2.1∧m.2.2.1≤32
   ·rw [decide_eq_true c1,decide_eq_true c2,if_pos rfl,if_pos rfl,if_pos rfl,if_pos rfl]
    obtain ⟨R,hR⟩:=Int.eq_ofNat_of_zero_le c1.1
    obtain ⟨C,hC⟩:=Int.eq_ofNat_of_zero_le c2.1
    have hRC:R*C≤32*32:=Nat.mul_le_mul (by omega) (by omega)
    have hw:z0_ (m.2.1*m.2.2.1)=((R*C:Nat):Int):=by
     rw [hR,hC,← Int.natCast_mul]
     exact w_id (by omega) (by omega)
    rw [hw]
    refine ⟨m.2.2.2.all (fun x=>decide (0≤x∧x≤m.1-1))&&decide ((m.2.2.2.length:Int)=((R*C:Nat):Int)),rfl,?_,fun h=>?_⟩
    ·by_cases c3:(m.2.2.2.length:Int)=((R*C:Nat):Int)
     ·rw [decide_eq_true c3,if_pos rfl,Bool.and_true]
     ·rw [decide_eq_false c3,if_neg (by simp),Bool.and_false]
    ·simp only [Bool.and_eq_true,List.all_eq_true,decide_eq_true_eq] at h
     exact ⟨R,C,hR,hC,by omega,by omega,by omega,hp,fun x hx=>by have:=h.1 x hx; omega,fun x hx=>by have:=h.1 x hx; omega⟩
   ·exact ⟨false,by simp [c1,c2],by simp [c1,c2],fun h=>by cases h⟩
  ·exact ⟨false,by simp [c1],by simp [c1],fun h=>by cases h⟩
def rowM (cells:List Int) (C r:Nat):List Int:=(cells.drop (r*C)).take C
theorem zzb_ {cells:List Int} {R C r:Nat} (hl:cells.length=R*C) (hr:r<R):(rowM cells C r).length=C:=by
 unfold rowM
 rw [List.length_take,List.length_drop,hl]
 have:(r+1)*C≤R*C:=Nat.mul_le_mul_right _ hr
 rw [Nat.succ_mul] at this
 omega
theorem z1bj_ {cells:List Int} {C r c:Nat} (hc:c<C):(rowM cells C r)[c]?=cells[r*C+c]?:=by
 unfold rowM
 rw [List.getElem?_take_of_lt hc,List.getElem?_drop]
theorem z1bk_ {a:List Int} (ha:a.length≤1048576):zjb_ a=some a:=by
 have hL:=z1l_
 unfold zjb_
 have h:(([]:List Unit).length+a.length)*8≤LIM:=by simp only [List.length_nil]; omega
 rw [if_pos h]
 cases a with
 | nil=>simp [both]
 | cons x l=>simp
theorem z1bl_ {k:Nat} (hk:KK≤k) {m:Mat} {R C:Nat} (h:MatP m R C):zjd_ k m=some ((List.range R).map (rowM m.2.2.2 C)):=by
 have hK:=zg_
 have hLI:=z1l_
 have h32:=h.c32
 have hr32:=h.r32
 unfold zjd_
 have:=z1h_ (α:=Nat) (A:=List (List Int)) (L:=fun n i q=>zb7_ k n m.2.1 i q m (fun q_4=>some q_4)) (I:=fun pre q=>q=pre.map (rowM m.2.2.2 C)) (G:=fun _ _=>some ((List.range R).map (rowM m.2.2.2 C))) (List.range R) ?_ ?_ k (by rw [List.length_range]; omega) [] rfl
 ·exact this
 ·intro n pre x post q hx hq ih hg hlt
  rw [List.length_range] at hlt
  have hr:pre.length<R:=by omega
  have hxe:x=pre.length:=by rw [List.getElem?_range hr] at hg; simpa using hg.symm
  have hw:=zf_ (i:=pre.length) (by omega)
  have hlt':(pre.length:Int)<m.2.1:=by rw [h.rows]; omega
  have h1:(pre.length+1)*C≤R*C:=Nat.mul_le_mul_right _ hr
  have h2:R*C≤32*32:=Nat.mul_le_mul hr32 h32
  have h3:(pre.length+1)*C=pre.length*C+C:=Nat.succ_mul _ _
  have hm1:z0_ ((pre.length:Int)*m.2.2.1)=((pre.length*C:Nat):Int):=by rw [h.cols,← Int.natCast_mul]; exact w_id (by omega) (by omega)
  have hm2:z0_ (((pre.length+1:Nat):Int)*m.2.2.1)=(((pre.length+1)*C:Nat):Int):=by rw [h.cols,← Int.natCast_mul]; exact w_id (by omega) (by omega)
  have hrow:zj9_ m (pre.length:Int)=some (rowM m.2.2.2 C pre.length):=by
   unfold zj9_
   rw [hm1,hw,hm2,if_pos ⟨by omega,by omega,by rw [h.len]; omega⟩,Int.toNat_natCast,Int.toNat_natCast,show (pre.length+1)*C-pre.length*C=C by omega]
   rfl
  have hrl:=zzb_ h.len hr
  have hql:q.length=pre.length:=by rw [hq,List.length_map]
  have b1:(q.length+1)*24≤LIM:=by omega
  subst hxe
  simp only [zb7_,hlt',decide_true,if_true,hrow,Option.bind_some,z1bk_ (show (rowM m.2.2.2 C pre.length).length≤1048576 by omega),List.length_singleton,b1,hw]
  exact ih _ (by rw [hq]; simp)
 ·intro n q hq
  have:¬ ((List.range R).length:Int)<m.2.1:=by rw [h.rows,List.length_range]; omega
  subst hq
  simp only [zb7_,this,decide_false,Bool.false_eq_true,if_false]
def rowF (C:Nat) (f:Nat→Nat→Int) (i:Nat):List Int:=(List.range C).map (f i)
def matF (R C:Nat) (f:Nat→Nat→Int):List (List Int):=(List.range R).map (rowF C f)
def celF (R C:Nat) (f:Nat→Nat→Int):List Int:=(List.range (R*C)).map fun (t:Nat)=>f (t / C) (t % C)
theorem z1bm_ (C:Nat) (f:Nat→Nat→Int) (i:Nat):(rowF C f i).length=C:=by simp [rowF]
theorem z75_ (R C:Nat) (f:Nat→Nat→Int):(matF R C f).length=R:=by simp [matF]
theorem z49_ (R C:Nat) (f:Nat→Nat→Int):(celF R C f).length=R*C:=by simp [celF]
theorem zdg_ {C:Nat} (f:Nat→Nat→Int) (i:Nat) {j:Nat} (h:j<C):(rowF C f i)[j]?=some (f i j):=by unfold rowF; rw [List.getElem?_map,List.getElem?_range h]; rfl
theorem z4p_ {R C:Nat} (f:Nat→Nat→Int) {i:Nat} (h:i<R):(matF R C f)[i]?=some (rowF C f i):=by unfold matF; rw [List.getElem?_map,List.getElem?_range h]; rfl
theorem ixl {R C i j:Nat} (hi:i<R) (hj:j<C):i*C+j<R*C:=by
 have:(i+1)*C≤R*C:=Nat.mul_le_mul_right _ hi
 rw [Nat.succ_mul] at this
 omega
theorem dm {C i j:Nat} (hj:j<C):(i*C+j) / C=i∧(i*C+j) % C=j:=by
 constructor
 ·rw [Nat.mul_comm,Nat.mul_add_div (by omega),Nat.div_eq_of_lt hj,Nat.add_zero]
 ·rw [Nat.mul_comm,Nat.mul_add_mod,Nat.mod_eq_of_lt hj]
theorem z5l_ {R C:Nat} (f:Nat→Nat→Int) {i j:Nat} (hi:i<R) (hj:j<C):(celF R C f)[i*C+j]?=some (f i j):=by
 unfold celF
 rw [List.getElem?_map,List.getElem?_range (ixl hi hj)]
 have:=dm (i:=i) hj
 rw [Option.map_some,this.1,this.2]
theorem zdh_ {C:Nat} {f g:Nat→Nat→Int} {i i':Nat} (h:∀ j,j<C→f i j=g i' j):rowF C f i=rowF C g i':=List.map_congr_left fun j hj=>h j (List.mem_range.1 hj)
theorem zpk_ {R C:Nat} {f g:Nat→Nat→Int} (h:∀ i j,i<R→j<C→f i j=g i j):matF R C f=matF R C g:=List.map_congr_left fun i hi=>zdh_ fun j hj=>h i j (List.mem_range.1 hi) hj
theorem z8k_ {R C:Nat} {f g:Nat→Nat→Int} (h:∀ i j,i<R→j<C→f i j=g i j):celF R C f=celF R C g:=List.map_congr_left fun t ht=>by
 have ht:=List.mem_range.1 ht
 have hC:0<C:=by
  rcases Nat.eq_zero_or_pos C with h0 | h0
  ·subst h0; simp at ht
  ·exact h0
 exact h _ _ (Nat.div_lt_of_lt_mul (by rw [Nat.mul_comm]; exact ht)) (Nat.mod_lt _ hC)
theorem zka_ {R C:Nat} (f g:Nat→Nat→Int) {i:Nat} (i':Nat) (hi:i<R):(matF R C f).set i (rowF C g i')=matF R C (fun x j=>if x=i then g i' j else f x j):=by
 refine List.ext_getElem? fun x=>?_
 rw [List.getElem?_set,z75_]
 by_cases hx:x<R
 ·rw [z4p_ _ hx,z4p_ _ hx]
  by_cases e:i=x
  ·subst e
   rw [if_pos rfl,if_pos hx]
   congr 1
   exact zdh_ fun j _=>by rw [if_pos rfl]
  ·rw [if_neg e]
   congr 1
   exact zdh_ fun j _=>by rw [if_neg (fun h=>e h.symm)]
 ·rw [List.getElem?_eq_none (by rw [z75_]; omega),List.getElem?_eq_none (by rw [z75_]; omega),if_neg (by omega)]
def z4q_ (f:Nat→Nat→Int) (i j:Nat) (v:Int):Nat→Nat→Int:=fun x y=>if x=i∧y=j then v else f x y
theorem zkb_ {R C:Nat} (f:Nat→Nat→Int) {i j:Nat} (v:Int) (hi:i<R) (hj:j<C):(celF R C f).set (i*C+j) v=celF R C (z4q_ f i j v):=by
 refine List.ext_getElem? fun t=>?_
 rw [List.getElem?_set,z49_]
 by_cases ht:t<R*C
 ·unfold celF
  rw [List.getElem?_map,List.getElem?_map,List.getElem?_range ht]
  simp only [Option.map_some]
  by_cases e:i*C+j=t
  ·subst e
   have:=dm (i:=i) hj
   rw [if_pos rfl,if_pos ht,this.1,this.2]
   unfold z4q_
   rw [if_pos ⟨rfl,rfl⟩]
  ·rw [if_neg e]
   unfold z4q_
   rw [if_neg (fun h=>e (by rw [← h.1,← h.2,Nat.mul_comm]; exact Nat.div_add_mod t C))]
 ·rw [List.getElem?_eq_none (by rw [z49_]; omega),List.getElem?_eq_none (by rw [z49_]; omega),if_neg (by have:=ixl hi hj; omega)]
def zv_ (f:Nat→Nat→Int) (c:Nat):Nat→Nat→Nat
 | 0,at_=>at_
 | d+1,at_=>if f at_ c=0 then zv_ f c d (at_+1) else at_
theorem zkc_ (f:Nat→Nat→Int) (c:Nat):∀ d at_,at_≤zv_ f c d at_∧zv_ f c d at_≤at_+d
 | 0,at_=>⟨Nat.le_refl _,Nat.le_refl _⟩
 | d+1,at_=>by
  have:=zkc_ f c d (at_+1)
  unfold zv_
  split <;> omega
def swF (f:Nat→Nat→Int) (a b:Nat):Nat→Nat→Int:=fun i j=>if i=a then f b j else if i=b then f a j else f i j
def scF (f:Nat→Nat→Int) (p:Int) (a:Nat) (v:Int):Nat→Nat→Int:=fun i j=>if i=a then Int.tmod (v*f a j) p else f i j
def clF (f:Nat→Nat→Int) (p:Int) (t c n:Nat):Nat→Nat→Int:=fun i j=>if i<n∧i≠t∧f i c≠0 then Int.tmod (f i j+(p-f i c)*f t j) p else f i j
def BdF (p:Int) (f:Nat→Nat→Int):Prop:=∀ i j,0≤f i j∧f i j<p
theorem zzc_ {p:Int} (hp:2≤p) {x:Int} (hx:0≤x):0≤Int.tmod x p∧Int.tmod x p<p:=by
 rw [Int.tmod_eq_emod_of_nonneg hx]
 exact ⟨Int.emod_nonneg _ (by omega),Int.emod_lt_of_pos _ (by omega)⟩
theorem zdi_ {p:Int} {f:Nat→Nat→Int} (h:BdF p f) (a b:Nat):BdF p (swF f a b):=fun i j=>by unfold swF; split; exact h _ _; split; exact h _ _; exact h _ _
theorem zdj_ {p:Int} (hp:2≤p) {f:Nat→Nat→Int} (h:BdF p f) (a:Nat) {v:Int} (hv:0≤v):BdF p (scF f p a v):=fun i j=>by
 unfold scF
 split
 ·exact zzc_ hp (Int.mul_nonneg hv (h a j).1)
 ·exact h i j
theorem z1bn_ {p:Int} (hp:2≤p) {f:Nat→Nat→Int} (h:BdF p f) (t c n:Nat):BdF p (clF f p t c n):=fun i j=>by
 unfold clF
 split
 ·have h1:=h i j
  have h2:=h i c
  have h3:=h t j
  exact zzc_ hp (Int.add_nonneg h1.1 (Int.mul_nonneg (by omega) h3.1))
 ·exact h i j
theorem zzd_ {p:Int} {f:Nat→Nat→Int} (t c n j:Nat):clF f p t c n t j=f t j:=by unfold clF; rw [if_neg (fun h=>h.2.1 rfl)]
theorem zpl_ {p:Int} {f:Nat→Nat→Int} (t c n j:Nat):clF f p t c n n j=f n j:=by unfold clF; rw [if_neg (fun h=>Nat.lt_irrefl _ h.1)]
theorem zkd_ {p:Int} {f:Nat→Nat→Int} {t c n:Nat} (h:n=t∨f n c=0):clF f p t c (n+1)=clF f p t c n:=by
 funext i j
 unfold clF
 by_cases e:i<n∧i≠t∧f i c≠0
 ·rw [if_pos e,if_pos ⟨by omega,e.2⟩]
 ·rw [if_neg e,if_neg]
  rintro ⟨h1,h2,h3⟩
  have:i=n:=by
   rcases Nat.lt_or_ge i n with h4 | h4
   ·exact absurd ⟨h4,h2,h3⟩ e
   ·omega
  subst this
  rcases h with h | h
  ·exact h2 h
  ·exact h3 h
theorem zze_ {p:Int} {f:Nat→Nat→Int} {t c n:Nat} (h1:n≠t) (h2:f n c≠0):(fun i j=>if i=n then Int.tmod (f n j+(p-f n c)*f t j) p else clF f p t c n i j)=clF f p t c (n+1):=by
 funext i j
 unfold clF
 by_cases e:i=n
 ·subst e; rw [if_pos rfl,if_pos ⟨by omega,h1,h2⟩]
 ·rw [if_neg e]
  by_cases e2:i<n∧i≠t∧f i c≠0
  ·rw [if_pos e2,if_pos ⟨by omega,e2.2⟩]
  ·rw [if_neg e2,if_neg (fun h=>e2 ⟨by omega,h.2⟩)]
theorem z3t_ {S R:Type} {L:Nat→Int→S→R} {b:Nat} {st:Nat→S} {e:R} (h1:∀ n (i:Nat),i<b→L (n+1) (i:Int) (st i)=L n ((i+1:Nat):Int) (st (i+1))) (h2:∀ n,L (n+1) (b:Int) (st b)=e):∀ {n:Nat},b<n→L n 0 (st 0)=e:=by
 have key:∀ (d i n:Nat),i+d=b→d<n→L n (i:Int) (st i)=e:=by
  intro d
  induction d with
  | zero =>
   intro i n hi hn
   obtain ⟨n,rfl⟩:∃ m,n=m+1:=⟨n-1,by omega⟩
   have:i=b:=by omega
   subst this
   exact h2 n
  | succ d ih =>
   intro i n hi hn
   obtain ⟨n,rfl⟩:∃ m,n=m+1:=⟨n-1,by omega⟩
   rw [h1 n i (by omega)]
   exact ih (i+1) n (by omega) (by omega)
 intro n hn
 exact key b 0 n (by omega) hn
theorem zzf_ (x y p:Int):(x % p*y) % p=(x*y) % p:=by rw [Int.mul_emod,Int.emod_emod,← Int.mul_emod]
theorem zzg_ (x y p:Int):(x*(y % p)) % p=(x*y) % p:=by rw [Int.mul_emod,Int.emod_emod,← Int.mul_emod]
theorem zzh_ (x p:Int):∀ m:Nat,((x % p) ^ m) % p=(x ^ m) % p
 | 0=>by simp
 | m+1=>by rw [Int.pow_succ,Int.pow_succ,Int.mul_emod,zzh_ x p m,Int.emod_emod,← Int.mul_emod]
theorem z8l_ {x p:Int} (h:0≤x):Int.tmod x p=x % p:=Int.tmod_eq_emod_of_nonneg h
def invF (p a:Int):Int:=(a ^ (p-2).toNat) % p
theorem z5m_ {p:Int} (hp:2≤p) (a:Int):0≤invF p a∧invF p a<p:=⟨Int.emod_nonneg _ (by omega),Int.emod_lt_of_pos _ (by omega)⟩
theorem zdk_ {a p:Int} (hp:2≤p∧p≤251) (h:0≤a∧a<p) {b:Int} (hb:0≤b∧b<p):0≤a*b∧a*b≤62500 :=
 ⟨Int.mul_nonneg h.1 hb.1,Int.le_trans (Int.mul_le_mul (show a≤250 by omega) (show b≤250 by omega) hb.1 (by omega)) (by omega)⟩
theorem zzi_ {k:Nat} (hk:KK≤k) {a p:Int} (hp:2≤p∧p≤251) (ha:0≤a∧a<p):zd2_ k a p=some (invF p a):=by
 have hK:=zg_
 have key:∀ (d n:Nat) (out:Int),d<n→0≤out∧out<p→d≤251→zam_ k n a p out (d:Int) (fun out_1=>some out_1)=some ((out*a ^ d) % p):=by
  intro d
  induction d with
  | zero =>
   intro n out hn ho _
   obtain ⟨n,rfl⟩:∃ m,n=m+1:=⟨n-1,by omega⟩
   have:¬ (0:Int)<((0:Nat):Int):=by omega
   simp only [zam_,this,decide_false,Bool.false_eq_true,if_false]
   rw [show out*a ^ 0=out by simp,Int.emod_eq_of_lt ho.1 ho.2]
  | succ d ih =>
   intro n out hn ho hd
   obtain ⟨n,rfl⟩:∃ m,n=m+1:=⟨n-1,by omega⟩
   have h0:(0:Int)<((d+1:Nat):Int):=by omega
   have b:=zdk_ hp ho ha
   have hw:z0_ (((d+1:Nat):Int)-1)=(d:Int):=by rw [w_id (by omega) (by omega)]; omega
   simp only [zam_,h0,decide_true,if_true,hw]
   rw [if_neg (by omega),w_id (by omega) (by omega),z8l_ b.1,ih n _ (by omega) ⟨Int.emod_nonneg _ (by omega),Int.emod_lt_of_pos _ (by omega)⟩ (by omega),zzf_,Int.pow_succ]
   congr 2
   rw [Int.mul_assoc,Int.mul_comm a]
 unfold zd2_
 have h1:z0_ (p-2)=((p-2).toNat:Int):=by rw [w_id (by omega) (by omega)]; omega
 rw [h1,key _ k 1 (by omega) ⟨by omega,by omega⟩ (by omega)]
 unfold invF
 rw [Int.one_mul]
theorem zzj_ {k:Nat} (hk:KK≤k) {a p:Int} (hp:2≤p∧p≤251) (ha:0≤a∧a<p):zdc_ k a p=some (invF p a):=by
 have hK:=zg_
 have key:∀ (n:Nat) (f:Nat) (a out:Int),n<f→0≤a∧a<p→0≤out∧out<p→n≤251→z8i_ k f a (n:Int) p out (fun out_1=>some out_1)=some ((out*a ^ n) % p):=by
  intro n
  induction n using Nat.strongRecOn with
  | _ n ih =>
   intro f a out hf ha ho hn
   obtain ⟨f,rfl⟩:∃ m,f=m+1:=⟨f-1,by omega⟩
   rcases Nat.eq_zero_or_pos n with h0 | h0
   ·subst h0
    have:¬ (0:Int)<((0:Nat):Int):=by omega
    simp only [z8i_,this,decide_false,Bool.false_eq_true,if_false]
    rw [show out*a ^ 0=out by simp,Int.emod_eq_of_lt ho.1 ho.2]
   ·have h1:(0:Int)<(n:Int):=by omega
    have b:=zdk_ hp ho ha
    have b2:=zdk_ hp ha ha
    have e1:Int.tmod (n:Int) 2=((n % 2:Nat):Int):=by rw [z8l_ (by omega)]; omega
    have e2:z0_ (Int.tdiv (n:Int) 2)=((n / 2:Nat):Int):=by
     rw [Int.tdiv_eq_ediv_of_nonneg (by omega),w_id (by omega) (by omega)]; omega
    have hpn:¬ p=0:=by omega
    have sqb:0≤a*a % p∧a*a % p<p:=⟨Int.emod_nonneg _ (by omega),Int.emod_lt_of_pos _ (by omega)⟩
    have sq:∀ z:Int,(z*(a*a % p) ^ (n / 2)) % p=(z*(a*a) ^ (n / 2)) % p:=fun z=>by
     rw [← zzg_,zzh_,zzg_]
    have pw:(a*a) ^ (n / 2)=a ^ (2*(n / 2)):=by rw [Int.pow_mul]; congr 1; rw [Int.pow_succ,Int.pow_succ,Int.pow_zero,Int.one_mul]
    simp only [z8i_,h1,decide_true,if_true,e1,e2,hpn,if_false]
    rcases Nat.mod_two_eq_zero_or_one n with h2 | h2
    ·rw [h2,decide_eq_false (by omega),if_neg (by simp),w_id (by omega) (by omega),z8l_ b2.1,ih (n / 2) (by omega) f _ _ (by omega) sqb ho (by omega),sq,pw,show 2*(n / 2)=n by omega]
    ·have ob:0≤out*a % p∧out*a % p<p:=⟨Int.emod_nonneg _ (by omega),Int.emod_lt_of_pos _ (by omega)⟩
     rw [h2,decide_eq_true (by omega),if_pos rfl,w_id (by omega) (by omega),w_id (by omega) (by omega),z8l_ b2.1,z8l_ b.1,ih (n / 2) (by omega) f _ _ (by omega) sqb ob (by omega),sq,zzf_,pw]
     congr 2
     rw [Int.mul_assoc]
     congr 1
     conv=>rhs; rw [show n=2*(n / 2)+1 by omega]
     rw [Int.pow_succ,Int.mul_comm]
 unfold zdc_ zoy_
 have h1:z0_ (p-2)=((p-2).toNat:Int):=by rw [w_id (by omega) (by omega)]; omega
 rw [h1,key _ k a 1 (by omega) ha ⟨by omega,by omega⟩ (by omega)]
 unfold invF
 rw [Int.one_mul]
 rfl
theorem w_ix {i C j:Nat} (hi:i≤64) (hC:C≤64) (hj:j≤64):z0_ (z0_ ((i:Int)*(C:Int))+(j:Int))=((i*C+j:Nat):Int):=by
 have:i*C≤64*64:=Nat.mul_le_mul hi hC
 rw [← Int.natCast_mul,w_id (x:=((i*C:Nat):Int)) (by omega) (by omega),w_id (by omega) (by omega)]
 omega
theorem zzk_ {k:Nat} (hk:KK≤k) {p v:Int} (hp:2≤p∧p≤251) (hv:0≤v∧v≤251) {C:Nat} (hC:C≤64) {g h:Nat→Int} (hg:∀ j,0≤g j∧g j<p) (hh:∀ j,0≤h j∧h j<p) :
  z70_ k ((List.range C).map g) ((List.range C).map h) v p=some ((List.range C).map fun j=>Int.tmod (g j+v*h j) p):=by
 have hK:=zg_
 have hL:=z1l_
 unfold z70_
 rw [show (List.length ((List.range C).map g):Int)=(C:Int) by simp]
 refine z3t_ (S:=List Int) (L:=fun n i q=>zbc_ k n ((List.range C).map g) ((List.range C).map h) v p (C:Int) i q (fun q_4=>some q_4)) (b:=C) (st:=fun i=>(List.range i).map fun j=>Int.tmod (g j+v*h j) p) ?_ ?_ (n:=k) (by omega)
 ·intro n i hi
  have hlt:(i:Int)<(C:Int):=by omega
  have hw:=zf_ (i:=i) (by omega)
  have hgi:=hg i
  have hhi:=hh i
  have h1:v*h i≤251*250:=Int.mul_le_mul hv.2 (show h i≤250 by omega) hhi.1 (by omega)
  have h2:0≤v*h i:=Int.mul_nonneg hv.1 hhi.1
  have e1:z0_ (v*h i)=v*h i:=w_id (by omega) (by omega)
  have e2:z0_ (g i+v*h i)=g i+v*h i:=w_id (by omega) (by omega)
  have g1:((List.range C).map g)[i]?=some (g i):=by rw [List.getElem?_map,List.getElem?_range hi]; rfl
  have g2:((List.range C).map h)[i]?=some (h i):=by rw [List.getElem?_map,List.getElem?_range hi]; rfl
  have hpn:¬ p=0:=by omega
  have hl:((List.range i).length+1)*8≤LIM:=by rw [List.length_range]; omega
  simp only [zbc_,hlt,decide_true,if_true,Int.natCast_nonneg,Int.toNat_natCast,g1,g2,Option.bind_some,e1,e2,hpn,if_false,List.length_map,List.length_singleton,hl,hw]
  rw [List.range_succ,List.map_append]
  rfl
 ·intro n
  simp only [zbc_,Int.lt_irrefl,decide_false,Bool.false_eq_true,if_false]
theorem z1bo_ {k:Nat} {m:Mat} {R C c:Nat} (hm:m.2.1=(R:Int)) (hR:R≤64) (hC:C≤64) (hc:c<C) (f:Nat→Nat→Int) (p det:Int) (row:Nat) (q5 q6:List Int) (u1 u2 u3 u4 u5 u6:Int) (E:(Int×Int×Int×List Int)→Int→Int→Int→Int→Int→Int→(List Int)→(List Int)→(List Int)→Int→Int→Int→Int→Int→Int→Option ((Int×Int×Int×List Int)×List Int×Int)) :
  ∀ (d at_ n:Nat),at_+d=R→d<n→z87_ k n m p (C:Int) det (row:Int) (c:Int) (at_:Int) q5 q6 (celF R C f) u1 u2 u3 u4 u5 u6 E=E m p (C:Int) det (row:Int) (c:Int) (zv_ f c d at_:Int) q5 q6 (celF R C f) u1 u2 u3 u4 u5 u6:=by
 intro d
 induction d with
 | zero =>
  intro at_ n ha hn
  obtain ⟨n,rfl⟩:∃ m,n=m+1:=⟨n-1,by omega⟩
  have:¬ (at_:Int)<m.2.1:=by rw [hm]; omega
  simp only [z87_,this,decide_false,Bool.false_eq_true,if_false,zv_]
 | succ d ih =>
  intro at_ n ha hn
  obtain ⟨n,rfl⟩:∃ m,n=m+1:=⟨n-1,by omega⟩
  have hlt:(at_:Int)<m.2.1:=by rw [hm]; omega
  have hi:at_<R:=by omega
  have hw:=zf_ (i:=at_) (by omega)
  have hx:=w_ix (i:=at_) (C:=C) (j:=c) (by omega) hC (by omega)
  have hl:=ixl hi hc
  simp only [z87_,hlt,decide_true,if_true,hx,Int.natCast_nonneg,Int.toNat_natCast,z49_,hl,and_self,z5l_ f hi hc,Option.bind_some,hw]
  by_cases h0:f at_ c=0
  ·rw [decide_eq_true h0,if_pos rfl,ih (at_+1) n (by omega) (by omega)]
   simp only [zv_,h0,if_true]
  ·rw [decide_eq_false h0,if_neg (by simp)]
   simp only [zv_,h0,if_false]
def colF (f g:Nat→Nat→Int) (n:Nat):Nat→Nat→Int:=fun i j=>if j<n then g i j else f i j
theorem z1bp_ {f:Nat→Nat→Int} {a b n:Nat} (h:a≠b):z4q_ (z4q_ (colF f (swF f a b) n) b n (f a n)) a n (f b n)=colF f (swF f a b) (n+1):=by
 funext i j
 unfold z4q_ colF swF
 by_cases hj:j=n
 ·subst hj
  rw [if_pos (Nat.lt_succ_self _)]
  by_cases h1:i=a
  ·rw [if_pos ⟨h1,rfl⟩,if_pos h1]
  ·rw [if_neg (fun e=>h1 e.1),if_neg h1]
   by_cases h2:i=b
   ·rw [if_pos ⟨h2,rfl⟩,if_pos h2]
   ·rw [if_neg (fun e=>h2 e.1),if_neg h2,if_neg (Nat.lt_irrefl _)]
 ·rw [if_neg (fun e=>hj e.2),if_neg (fun e=>hj e.2)]
  by_cases h1:j<n
  ·rw [if_pos h1,if_pos (show j<n+1 by omega)]
  ·rw [if_neg h1,if_neg (show ¬ j<n+1 by omega)]
theorem z1bq_ {k:Nat} (hk:KK≤k) {m:Mat} {R C c row at_:Nat} (hR:R≤64) (hC:C≤64) (hr:row<R) (ha:at_<R) (hne:row≠at_) (f:Nat→Nat→Int) (p det:Int) (q5 q6:List Int) (u1 u2 u3 u4 u5 u6:Int) (E:(Int×Int×Int×List Int)→Int→Int→Int→Int→Int→(List Int)→(List Int)→(List Int)→Int→Int→Int→Int→Int→Int→Option ((Int×Int×Int×List Int)×List Int×Int)) :
  z6l_ k k m p (C:Int) det (row:Int) (c:Int) (at_:Int) 0 q5 q6 (celF R C f) u1 u2 u3 u4 u5 u6 E=E m p (C:Int) det (row:Int) (c:Int) q5 q6 (celF R C (swF f row at_)) u1 u2 u3 u4 u5 u6:=by
 have hK:=zg_
 have e0:celF R C f=celF R C (colF f (swF f row at_) 0):=z8k_ fun i j _ _=>by unfold colF; rw [if_neg (Nat.not_lt_zero _)]
 have e1:celF R C (swF f row at_)=celF R C (colF f (swF f row at_) C):=z8k_ fun i j _ hj=>by unfold colF; rw [if_pos hj]
 rw [e0,e1]
 refine z3t_ (S:=List Int) (L:=fun n j q=>z6l_ k n m p (C:Int) det (row:Int) (c:Int) (at_:Int) j q5 q6 q u1 u2 u3 u4 u5 u6 E) (b:=C) (st:=fun j=>celF R C (colF f (swF f row at_) j)) ?_ ?_ (n:=k) (by omega)
 ·intro n j hj
  have hlt:(j:Int)<(C:Int):=by omega
  have hw:=zf_ (i:=j) (by omega)
  have x1:=w_ix (i:=at_) (C:=C) (j:=j) (by omega) hC (by omega)
  have x2:=w_ix (i:=row) (C:=C) (j:=j) (by omega) hC (by omega)
  have l1:=ixl ha hj
  have l2:=ixl hr hj
  have v1:colF f (swF f row at_) j at_ j=f at_ j:=by unfold colF; rw [if_neg (Nat.lt_irrefl _)]
  have v2:colF f (swF f row at_) j row j=f row j:=by unfold colF; rw [if_neg (Nat.lt_irrefl _)]
  simp only [z6l_,hlt,decide_true,if_true,x1,x2,Int.natCast_nonneg,Int.toNat_natCast,z49_,l1,l2,and_self,z5l_ _ ha hj,z5l_ _ hr hj,v1,v2,Option.bind_some,hw,zkb_ _ _ ha hj,zkb_ _ _ hr hj,z1bp_ hne]
 ·intro n
  simp only [z6l_,Int.lt_irrefl,decide_false,Bool.false_eq_true,if_false]
theorem z1br_ {f:Nat→Nat→Int} {p:Int} {a n:Nat} {v:Int}:z4q_ (colF f (scF f p a v) n) a n (Int.tmod (v*f a n) p)=colF f (scF f p a v) (n+1):=by
 funext i j
 unfold z4q_ colF scF
 by_cases hj:j=n
 ·subst hj
  rw [if_pos (Nat.lt_succ_self _)]
  by_cases h1:i=a
  ·rw [if_pos ⟨h1,rfl⟩,if_pos h1]
  ·rw [if_neg (fun e=>h1 e.1),if_neg h1,if_neg (Nat.lt_irrefl _)]
 ·rw [if_neg (fun e=>hj e.2)]
  by_cases h1:j<n
  ·rw [if_pos h1,if_pos (show j<n+1 by omega)]
  ·rw [if_neg h1,if_neg (show ¬ j<n+1 by omega)]
theorem zzl_ {k:Nat} (hk:KK≤k) {m:Mat} {R C c row:Nat} (hR:R≤64) (hC:C≤64) (hr:row<R) {f:Nat→Nat→Int} {p:Int} (hp:2≤p∧p≤251) (hf:BdF p f) {v:Int} (hv:0≤v∧v<p) (det:Int) (q5 q6:List Int) (u1 u2 u3 u4 u5 u6:Int) (E:(Int×Int×Int×List Int)→Int→Int→Int→Int→Int→(List Int)→(List Int)→(List Int)→Int→Int→Int→Int→Int→Int→Option ((Int×Int×Int×List Int)×List Int×Int)) :
  z5h_ k k m p (C:Int) det (row:Int) (c:Int) v 0 q5 q6 (celF R C f) u1 u2 u3 u4 u5 u6 E=E m p (C:Int) det (row:Int) (c:Int) q5 q6 (celF R C (scF f p row v)) u1 u2 u3 u4 u5 u6:=by
 have hK:=zg_
 have e0:celF R C f=celF R C (colF f (scF f p row v) 0):=z8k_ fun i j _ _=>by unfold colF; rw [if_neg (Nat.not_lt_zero _)]
 have e1:celF R C (scF f p row v)=celF R C (colF f (scF f p row v) C):=z8k_ fun i j _ hj=>by unfold colF; rw [if_pos hj]
 rw [e0,e1]
 refine z3t_ (S:=List Int) (L:=fun n j q=>z5h_ k n m p (C:Int) det (row:Int) (c:Int) v j q5 q6 q u1 u2 u3 u4 u5 u6 E) (b:=C) (st:=fun j=>celF R C (colF f (scF f p row v) j)) ?_ ?_ (n:=k) (by omega)
 ·intro n j hj
  have hlt:(j:Int)<(C:Int):=by omega
  have hw:=zf_ (i:=j) (by omega)
  have x2:=w_ix (i:=row) (C:=C) (j:=j) (by omega) hC (by omega)
  have l2:=ixl hr hj
  have v2:colF f (scF f p row v) j row j=f row j:=by unfold colF; rw [if_neg (Nat.lt_irrefl _)]
  have b:=zdk_ hp (hf row j) hv
  have e:z0_ (f row j*v)=v*f row j:=by rw [w_id (by omega) (by omega),Int.mul_comm]
  have hpn:¬ p=0:=by omega
  simp only [z5h_,hlt,decide_true,if_true,x2,Int.natCast_nonneg,Int.toNat_natCast,z49_,l2,and_self,z5l_ _ hr hj,v2,Option.bind_some,hw,hpn,if_false,e,zkb_ _ _ hr hj,z1br_]
 ·intro n
  simp only [z5h_,Int.lt_irrefl,decide_false,Bool.false_eq_true,if_false]
theorem z1bs_ {p:Int} (hp:2≤p∧p≤251) {x y z:Int} (hx:0≤x∧x<p) (hy:0≤y∧y<p) (hz:0≤z∧z<p):zh2_ (z0_ (x-(z0_ (y*z)))) p=some (Int.tmod (x+(p-y)*z) p):=by
 have b:=zdk_ hp hy hz
 have h0:¬ p=0:=by omega
 have e1:(p-y)*z=p*z-y*z:=Int.sub_mul _ _ _
 have b2:0≤(p-y)*z:=Int.mul_nonneg (by omega) hz.1
 have w1:z0_ (y*z)=y*z:=w_id (by omega) (by omega)
 have w2:z0_ (x-y*z)=x-y*z:=w_id (by omega) (by omega)
 have h1:=Int.tmod_lt_of_pos (x-y*z) (show 0<p by omega)
 have h2:=Int.lt_tmod_of_pos (x-y*z) (show 0<p by omega)
 have w3:z0_ (Int.tmod (x-y*z) p+p)=Int.tmod (x-y*z) p+p:=w_id (by omega) (by omega)
 unfold zh2_
 rw [if_neg h0,if_neg h0,w1,w2,w3,z8l_ (by omega),z8l_ (Int.add_nonneg hx.1 b2)]
 congr 1
 have s1:∀ z:Int,(z+p) % p=z % p:=fun z=>by have:=Int.add_mul_emod_self_left z p 1; rwa [Int.mul_one] at this
 have e2:x+(p*z-y*z)=x-y*z+p*z:=by omega
 have:=Int.tmod_def (x-y*z) p
 rw [s1,e1,e2,Int.add_mul_emod_self_left,this,show (x-y*z)-p*Int.tdiv (x-y*z) p=(x-y*z)+p*(- Int.tdiv (x-y*z) p) by rw [Int.mul_neg]; omega,Int.add_mul_emod_self_left]
def clR (f:Nat→Nat→Int) (p:Int) (t c i n:Nat):Nat→Nat→Int:=fun x j=>if x=i∧j<n then Int.tmod (f i j+(p-f i c)*f t j) p else clF f p t c i x j
theorem z1bt_ {f:Nat→Nat→Int} {p:Int} {t c i n:Nat}:z4q_ (clR f p t c i n) i n (Int.tmod (f i n+(p-f i c)*f t n) p)=clR f p t c i (n+1):=by
 funext x j
 unfold z4q_ clR
 by_cases h:x=i∧j=n
 ·obtain ⟨rfl,rfl⟩:=h
  rw [if_pos ⟨rfl,rfl⟩,if_pos ⟨rfl,by omega⟩]
 ·rw [if_neg h]
  by_cases h2:x=i∧j<n
  ·rw [if_pos h2,if_pos ⟨h2.1,by omega⟩]
  ·rw [if_neg h2,if_neg (fun h3=>by
    rcases Nat.lt_or_ge j n with h4 | h4
    ·exact h2 ⟨h3.1,h4⟩
    ·exact h ⟨h3.1,by omega⟩)]
theorem zzm_ {k:Nat} (hk:KK≤k) {m:Mat} {R C c row:Nat} (hm:m.2.1=(R:Int)) (hR:R≤64) (hC:C≤64) (hc:c<C) (hr:row<R) {f:Nat→Nat→Int} {p:Int} (hp:2≤p∧p≤251) (hf:BdF p f) (det:Int) (q5 q6:List Int) (u1 u2 u3 u4 u5 u6:Int) (E:(Int×Int×Int×List Int)→Int→Int→Int→Int→Int→(List Int)→(List Int)→(List Int)→Int→Int→Int→Int→Int→Int→Option ((Int×Int×Int×List Int)×List Int×Int)) :
  z47_ k k m p (C:Int) det (row:Int) (c:Int) 0 q5 q6 (celF R C f) u1 u2 u3 u4 u5 u6 E=E m p (C:Int) det (row:Int) (c:Int) q5 q6 (celF R C (clF f p row c R)) u1 u2 u3 u4 u5 u6:=by
 have hK:=zg_
 have e0:celF R C f=celF R C (clF f p row c 0):=z8k_ fun i j _ _=>by unfold clF; rw [if_neg (fun h=>Nat.not_lt_zero _ h.1)]
 rw [e0]
 have inner:∀ (i:Nat),i<R→i≠row→f i c≠0→∀ (E:(Int×Int×Int×List Int)→Int→Int→Int→Int→Int→Int→(List Int)→(List Int)→(List Int)→Int→Int→Int→Int→Int→Int→Option ((Int×Int×Int×List Int)×List Int×Int)),
   z6k_ k k m p (C:Int) det (row:Int) (c:Int) (i:Int) (f i c) 0 q5 q6 (celF R C (clF f p row c i)) u1 u2 u3 u4 u5 u6 E=E m p (C:Int) det (row:Int) (c:Int) (i:Int) q5 q6 (celF R C (clF f p row c (i+1))) u1 u2 u3 u4 u5 u6:=by
  intro i hi h1 h2 E
  have e0:celF R C (clF f p row c i)=celF R C (clR f p row c i 0):=z8k_ fun x j _ _=>by unfold clR; rw [if_neg (fun h=>Nat.not_lt_zero _ h.2)]
  have e1:celF R C (clF f p row c (i+1))=celF R C (clR f p row c i C):=z8k_ fun x j _ hj=>by
   have hs:=congrFun (congrFun (zze_ (p:=p) h1 h2) x) j
   rw [← hs]
   unfold clR
   by_cases hx:x=i
   ·simp only [hx,if_true,hj,and_self]
   ·simp only [hx,if_false,false_and]
  rw [e0,e1]
  refine z3t_ (S:=List Int) (L:=fun n j q=>z6k_ k n m p (C:Int) det (row:Int) (c:Int) (i:Int) (f i c) j q5 q6 q u1 u2 u3 u4 u5 u6 E) (b:=C) (st:=fun j=>celF R C (clR f p row c i j)) ?_ ?_ (n:=k) (by omega)
  ·intro n j hj
   have hlt:(j:Int)<(C:Int):=by omega
   have hw:=zf_ (i:=j) (by omega)
   have x1:=w_ix (i:=i) (C:=C) (j:=j) (by omega) hC (by omega)
   have x2:=w_ix (i:=row) (C:=C) (j:=j) (by omega) hC (by omega)
   have l1:=ixl hi hj
   have l2:=ixl hr hj
   have v1:clR f p row c i j i j=f i j:=by unfold clR; rw [if_neg (fun h=>Nat.lt_irrefl _ h.2),zpl_]
   have v2:clR f p row c i j row j=f row j:=by unfold clR; rw [if_neg (fun h=>h1 h.1.symm),zzd_]
   simp only [z6k_,hlt,decide_true,if_true,x1,x2,Int.natCast_nonneg,Int.toNat_natCast,z49_,l1,l2,and_self,z5l_ _ hi hj,z5l_ _ hr hj,v1,v2,Option.bind_some,hw,z1bs_ hp (hf i j) (hf i c) (hf row j),zkb_ _ _ hi hj,z1bt_]
  ·intro n
   simp only [z6k_,Int.lt_irrefl,decide_false,Bool.false_eq_true,if_false]
 refine z3t_ (S:=List Int) (L:=fun n i q=>z47_ k n m p (C:Int) det (row:Int) (c:Int) i q5 q6 q u1 u2 u3 u4 u5 u6 E) (b:=R) (st:=fun i=>celF R C (clF f p row c i)) ?_ ?_ (n:=k) (by omega)
 ·intro n i hi
  have hlt:(i:Int)<m.2.1:=by rw [hm]; omega
  have hw:=zf_ (i:=i) (by omega)
  have x1:=w_ix (i:=i) (C:=C) (j:=c) (by omega) hC (by omega)
  have l1:=ixl hi hc
  simp only [z47_,hlt,decide_true,if_true,x1,Int.natCast_nonneg,Int.toNat_natCast,z49_,l1,and_self,z5l_ _ hi hc,zpl_,Option.bind_some,hw]
  by_cases h1:i=row
  ·rw [decide_eq_true (by omega),if_pos rfl,zkd_ (.inl h1)]
  ·rw [decide_eq_false (by omega),if_neg (by simp)]
   by_cases h2:f i c=0
   ·rw [decide_eq_true h2,if_pos rfl,zkd_ (.inr h2)]
   ·rw [decide_eq_false h2,if_neg (by simp),inner i hi h1 h2]
    simp only [hw]
 ·intro n
  have:¬ (R:Int)<m.2.1:=by rw [hm]; omega
  simp only [z47_,this,decide_false,Bool.false_eq_true,if_false]
def z3u_ (p:Int) (R:Nat) (f:Nat→Nat→Int) (c t:Nat):Nat→Nat→Int:=clF (scF (swF f t (zv_ f c (R-t) t)) p t (invF p (f (zv_ f c (R-t) t) c))) p t c R
def gz (p:Int) (R:Nat):Nat→Nat→(Nat→Nat→Int)→List Int→(Nat→Nat→Int)×List Int
 | 0,_,f,P=>(f,P)
 | d+1,c,f,P=>if zv_ f c (R-P.length) P.length=R then gz p R d (c+1) f P else gz p R d (c+1) (z3u_ p R f c P.length) (P++[(c:Int)])
theorem zzn_ (p:Int) (R:Nat):∀ d c f P,P.length=R→gz p R d c f P=(f,P)
 | 0,_,_,_,_=>rfl
 | d+1,c,f,P,h=>by
  unfold gz
  rw [h,Nat.sub_self,if_pos (show zv_ f c 0 R=R from rfl)]
  exact zzn_ p R d (c+1) f P h
theorem zzo_ {p:Int} (hp:2≤p∧p≤251) {R:Nat} {f:Nat→Nat→Int} (h:BdF p f) (c t:Nat):BdF p (z3u_ p R f c t):=z1bn_ hp.1 (zdj_ hp.1 (zdi_ h _ _) _ (z5m_ hp.1 _).1) _ _ _
theorem zzp_ (f:Nat→Nat→Int) (t:Nat):swF f t t=f:=by
 funext i j
 unfold swF
 by_cases h:i=t
 ·rw [if_pos h,h]
 ·rw [if_neg h,if_neg h]
theorem z1bu_ {k:Nat} (hk:KK≤k) {m:Mat} {R C:Nat} (hm:m.2.1=(R:Int)) (hR:R≤64) (hC:C≤64) {p:Int} (hp:2≤p∧p≤251) (q3:List Int) (u1 u2 u3 u4 u5 u6:Int) (E:Int→(List Int)→(List Int)→(List Int)→Int→Int→Int→Int→Int→Int→Option ((Int×Int×Int×List Int)×List Int×Int)) :
  ∀ (d c n:Nat) (f:Nat→Nat→Int) (P:List Int) (det:Int),c+d=C→d<n→BdF p f→P.length≤R→P.length≤c→∃ det',z4o_ k n m p (C:Int) det (P.length:Int) (c:Int) P q3 (celF R C f) u1 u2 u3 u4 u5 u6 E=E det' (gz p R d c f P).2 q3 (celF R C (gz p R d c f P).1) u1 u2 u3 u4 u5 u6:=by
 have hK:=zg_
 have hL:=z1l_
 intro d
 induction d with
 | zero =>
  intro c n f P det hc hn hf hP hPc
  obtain ⟨n,rfl⟩:∃ m,n=m+1:=⟨n-1,by omega⟩
  have:¬ (c:Int)<(C:Int):=by omega
  simp only [z4o_,this,decide_false,Bool.false_eq_true,if_false,gz]
  exact ⟨_,rfl⟩
 | succ d ih =>
  intro c n f P det hc hn hf hP hPc
  obtain ⟨n,rfl⟩:∃ m,n=m+1:=⟨n-1,by omega⟩
  have hlt:(c:Int)<(C:Int):=by omega
  have hcC:c<C:=by omega
  simp only [z4o_,hlt,decide_true,if_true]
  by_cases hr:P.length<R
  ·have hr':(P.length:Int)<m.2.1:=by rw [hm]; omega
   rw [decide_eq_true hr',if_pos rfl,z1bo_ hm hR hC hcC f p det P.length P q3 u1 u2 u3 u4 u5 u6 _ (R-P.length) P.length k (by omega) (by omega)]
   have hs:=zkc_ f c (R-P.length) P.length
   have hw:=zf_ (i:=c) (by omega)
   have hw2:=zf_ (i:=P.length) (by omega)
   by_cases ha:zv_ f c (R-P.length) P.length=R
   ·rw [decide_eq_true (by rw [hm,ha]),if_pos rfl,hw]
    obtain ⟨det',h⟩:=ih (c+1) n f P det (by omega) (by omega) hf hP (by omega)
    refine ⟨det',?_⟩
    rw [h]
    simp only [gz,ha,if_true]
   ·rw [decide_eq_false (by rw [hm]; omega),if_neg (by simp)]
    have haR:zv_ f c (R-P.length) P.length<R:=by omega
    have hx:=w_ix (i:=P.length) (C:=C) (j:=c) (by omega) hC (by omega)
    have hl:=ixl hr hcC
    have hg:(gz p R (d+1) c f P)=gz p R d (c+1) (z3u_ p R f c P.length) (P++[(c:Int)]):=by simp only [gz,ha,if_false]
    have hbl:(P.length+1)*8≤LIM:=by omega
    have hpn:¬ p=0:=by omega
    have hfa:=hf (zv_ f c (R-P.length) P.length) c
    have hPl:((P++[(c:Int)]).length:Int)=((P.length+1:Nat):Int):=by rw [List.length_append]; rfl
    have fin:∀ det,∃ det',z4o_ k n m p (C:Int) det ((P.length+1:Nat):Int) ((c+1:Nat):Int) (P++[(c:Int)]) q3 (celF R C (z3u_ p R f c P.length)) u1 u2 u3 u4 u5 u6 E=E det' (gz p R (d+1) c f P).2 q3 (celF R C (gz p R (d+1) c f P).1) u1 u2 u3 u4 u5 u6:=fun det=>by
     obtain ⟨det',h⟩:=ih (c+1) n (z3u_ p R f c P.length) (P++[(c:Int)]) det (by omega) (by omega) (zzo_ hp hf c _) (by simp; omega) (by simp; omega)
     rw [hPl] at h
     exact ⟨det',by rw [h,hg]⟩
    by_cases hat:zv_ f c (R-P.length) P.length=P.length
    ·rw [decide_eq_true (by omega),Bool.not_true,if_neg (by simp)]
     rw [hat] at hfa
     simp only [hx,Int.natCast_nonneg,Int.toNat_natCast,z49_,hl,and_self,if_true,z5l_ f hr hcC,Option.bind_some,hpn,if_false,zzi_ hk hp hfa]
     rw [zzl_ hk hR hC hr hp hf (z5m_ hp.1 _),zzm_ hk hm hR hC hcC hr hp (zdj_ hp.1 hf _ (z5m_ hp.1 _).1)]
     simp only [List.length_singleton,hbl,if_true,hw,hw2]
     have he:clF (scF f p P.length (invF p (f P.length c))) p P.length c R=z3u_ p R f c P.length:=by unfold z3u_; rw [hat,zzp_]
     rw [he]
     exact fin _
    ·rw [decide_eq_false (by omega),Bool.not_false,if_pos rfl]
     have hv:swF f P.length (zv_ f c (R-P.length) P.length) P.length c=f (zv_ f c (R-P.length) P.length) c:=by unfold swF; rw [if_pos rfl]
     rw [z1bq_ hk hR hC hr haR (fun h=>hat h.symm)]
     simp only [hx,Int.natCast_nonneg,Int.toNat_natCast,z49_,hl,and_self,if_true,z5l_ _ hr hcC,hv,Option.bind_some,hpn,if_false,zzi_ hk hp hfa]
     rw [zzl_ hk hR hC hr hp (zdi_ hf _ _) (z5m_ hp.1 _),zzm_ hk hm hR hC hcC hr hp (zdj_ hp.1 (zdi_ hf _ _) _ (z5m_ hp.1 _).1)]
     simp only [List.length_singleton,hbl,if_true,hw,hw2]
     exact fin _
  ·have hr':¬ (P.length:Int)<m.2.1:=by rw [hm]; omega
   rw [decide_eq_false hr',if_neg (by simp),zzn_ p R (d+1) c f P (by omega)]
   exact ⟨_,rfl⟩
theorem z1bv_ {k:Nat} (hk:KK≤k) {R C c t:Nat} (hR:R≤64) (hc:c<C) (ht:t≤R) (f:Nat→Nat→Int) :
  zjg_ k (((matF R C f).drop t).take (R-t)) (c:Int)=some (if zv_ f c (R-t) t=R then -1 else (zv_ f c (R-t) t:Int)-(t:Int)):=by
 have hK:=zg_
 have hlen:(((matF R C f).drop t).take (R-t)).length=R-t:=by rw [List.length_take,List.length_drop,z75_]; omega
 unfold zjg_
 rw [hlen]
 have key:∀ (d i n:Nat),i+d=R-t→d<n→zb8_ k n (((matF R C f).drop t).take (R-t)) (c:Int) ((R-t:Nat):Int) (i:Int) (some (-1))=some (if zv_ f c d (t+i)=R then -1 else (zv_ f c d (t+i):Int)-(t:Int)):=by
  intro d
  induction d with
  | zero =>
   intro i n hi hn
   obtain ⟨n,rfl⟩:∃ m,n=m+1:=⟨n-1,by omega⟩
   have:¬ (i:Int)<((R-t:Nat):Int):=by omega
   simp only [zb8_,this,decide_false,Bool.false_eq_true,if_false]
   rw [if_pos (show zv_ f c 0 (t+i)=R by show t+i=R; omega)]
  | succ d ih =>
   intro i n hi hn
   obtain ⟨n,rfl⟩:∃ m,n=m+1:=⟨n-1,by omega⟩
   have hlt:(i:Int)<((R-t:Nat):Int):=by omega
   have hw:=zf_ (i:=i) (by omega)
   have hg:(((matF R C f).drop t).take (R-t))[i]?=some (rowF C f (t+i)):=by
    rw [List.getElem?_take_of_lt (by omega),List.getElem?_drop,z4p_ f (by omega)]
   simp only [zb8_,zow_,hlt,decide_true,if_true,Int.natCast_nonneg,Int.toNat_natCast,hg,Option.bind_some,zdg_ f _ hc,hw]
   by_cases h0:f (t+i) c=0
   ·rw [decide_eq_true h0,Bool.not_true,if_neg (by simp),ih (i+1) n (by omega) (by omega),show t+(i+1)=t+i+1 by omega]
    simp only [zv_,h0,if_true]
   ·rw [decide_eq_false h0,Bool.not_false,if_pos rfl]
    simp only [zv_,h0,if_false]
    rw [if_neg (by omega)]
    congr 1
    omega
 exact key (R-t) 0 k (by omega) (by omega)
theorem z1bw_ {R C t a:Nat} (f:Nat→Nat→Int) (ht:t<R) (ha:a<R) (h:a≠t):((matF R C f).set t (rowF C f a)).set a (rowF C f t)=matF R C (swF f t a):=by
 rw [zka_ f f a ht,zka_ _ f t ha]
 refine zpk_ fun i j _ _=>?_
 unfold swF
 by_cases h1:i=a
 ·rw [if_pos h1,if_neg (fun e=>h (by omega)),if_pos h1]
 ·rw [if_neg h1]
  by_cases h2:i=t
  ·rw [if_pos h2,if_pos h2]
  ·rw [if_neg h2,if_neg h2,if_neg h1]
theorem zzq_ {k:Nat} (hk:KK≤k) {C t:Nat} (hC:C≤64) {f:Nat→Nat→Int} {p v:Int} (hp:2≤p∧p≤251) (hf:BdF p f) (hv:0≤v∧v<p):z70_ k (List.replicate C 0) (rowF C f t) v p=some (rowF C (scF f p t v) t):=by
 have e:List.replicate C (0:Int)=(List.range C).map (fun _=>(0:Int)):=by rw [List.map_const',List.length_range]
 rw [e]
 unfold rowF
 rw [zzk_ hk hp ⟨hv.1,by omega⟩ hC (g:=fun _=>0) (h:=f t) (fun _=>⟨by omega,by omega⟩) (fun j=>hf t j)]
 congr 1
 refine List.map_congr_left fun j _=>?_
 unfold scF
 rw [if_pos rfl,Int.zero_add]
theorem zzr_ {R C t:Nat} {f:Nat→Nat→Int} {p v:Int} (ht:t<R):(matF R C f).set t (rowF C (scF f p t v) t)=matF R C (scF f p t v):=by
 rw [zka_ f _ t ht]
 refine zpk_ fun i j _ _=>?_
 by_cases h:i=t
 ·rw [if_pos h,h]
 ·rw [if_neg h]; unfold scF; rw [if_neg h]
theorem zzs_ {k:Nat} (hk:KK≤k) {R C c t:Nat} (hR:R≤64) (hC:C≤64) (hc:c<C) (ht:t<R) {f:Nat→Nat→Int} {p:Int} (hp:2≤p∧p≤251) (hf:BdF p f) (det x16 x17 cc:Int) (q20:List Int) (E:Int→Int→Int→Int→Int→(List (List Int))→(List Int)→Int→Option ((((Unit×(Int×Unit))×Unit)×((List (List Int))×(List Int)×Unit)×Unit))) :
  z48_ k k cc p det (t:Int) x16 x17 (R:Int) 0 (matF R C f) q20 (c:Int) E=E cc p det x16 x17 (matF R C (clF f p t c R)) q20 (c:Int):=by
 have hK:=zg_
 have e0:matF R C f=matF R C (clF f p t c 0):=zpk_ fun i j _ _=>by unfold clF; rw [if_neg (fun h=>Nat.not_lt_zero _ h.1)]
 rw [e0]
 refine z3t_ (S:=List (List Int)) (L:=fun n i q=>z48_ k n cc p det (t:Int) x16 x17 (R:Int) i q q20 (c:Int) E) (b:=R) (st:=fun i=>matF R C (clF f p t c i)) ?_ ?_ (n:=k) (by omega)
 ·intro n i hi
  have hlt:(i:Int)<(R:Int):=by omega
  have hw:=zf_ (i:=i) (by omega)
  have r1:rowF C (clF f p t c i) i=rowF C f i:=zdh_ fun j _=>zpl_ _ _ _ _
  have r2:rowF C (clF f p t c i) t=rowF C f t:=zdh_ fun j _=>zzd_ _ _ _ _
  have hfi:=hf i c
  have hwp:z0_ (p-f i c)=p-f i c:=w_id (by omega) (by omega)
  simp only [z48_,hlt,decide_true,if_true,Int.natCast_nonneg,Int.toNat_natCast,z75_,hi,and_self,z4p_ _ hi,z4p_ _ ht,r1,r2,Option.bind_some,zdg_ f i hc,hw,ht]
  by_cases h1:i=t
  ·rw [decide_eq_true (by omega),Bool.not_true,if_neg (by simp),zkd_ (.inl h1)]
  ·rw [decide_eq_false (by omega),Bool.not_false,if_pos rfl]
   by_cases h2:f i c=0
   ·rw [decide_eq_true h2,Bool.not_true,if_neg (by simp),zkd_ (.inr h2)]
   ·have ha:z70_ k (rowF C f i) (rowF C f t) (z0_ (p-f i c)) p=some (rowF C (fun _ j=>Int.tmod (f i j+(p-f i c)*f t j) p) i):=by
     rw [hwp]
     exact zzk_ hk hp ⟨by omega,by omega⟩ hC (g:=f i) (h:=f t) (fun j=>hf i j) (fun j=>hf t j)
    rw [decide_eq_false h2,Bool.not_false,if_pos rfl,ha]
    simp only [Option.bind_some]
    rw [zka_ _ _ i hi]
    have hs:=zze_ (p:=p) (f:=f) h1 h2
    rw [← hs]
 ·intro n
  simp only [z48_,Int.lt_irrefl,decide_false,Bool.false_eq_true,if_false]
theorem z1bx_ (x p:Int) (hp:2≤p):∃ r,zji_ x p=some r:=by
 have:¬ p=0:=by omega
 unfold zji_
 rw [if_neg this,if_neg this]
 exact ⟨_,rfl⟩
theorem z1by_ {k:Nat} (hk:KK≤k) {R C:Nat} (hR:R≤64) (hC:C≤64) {p:Int} (hp:2≤p∧p≤251) (E:Int→(List (List Int))→(List Int)→Option ((((Unit×(Int×Unit))×Unit)×((List (List Int))×(List Int)×Unit)×Unit))) :
  ∀ (d c n:Nat) (f:Nat→Nat→Int) (P:List Int) (det:Int),c+d=C→d<n→BdF p f→P.length≤R→P.length≤c→∃ det',z5k_ k n (C:Int) p det (C:Int) (c:Int) (matF R C f) P E=E det' (matF R C (gz p R d c f P).1) (gz p R d c f P).2:=by
 have hK:=zg_
 have hL:=z1l_
 intro d
 induction d with
 | zero =>
  intro c n f P det hc hn hf hP hPc
  obtain ⟨n,rfl⟩:∃ m,n=m+1:=⟨n-1,by omega⟩
  have:¬ (c:Int)<(C:Int):=by omega
  simp only [z5k_,this,decide_false,Bool.false_eq_true,if_false,gz]
  exact ⟨_,rfl⟩
 | succ d ih =>
  intro c n f P det hc hn hf hP hPc
  obtain ⟨n,rfl⟩:∃ m,n=m+1:=⟨n-1,by omega⟩
  have hlt:(c:Int)<(C:Int):=by omega
  have hcC:c<C:=by omega
  have b1:0≤(P.length:Int)∧(P.length:Int)≤(R:Int)∧(R:Int)≤(R:Int):=⟨by omega,by omega,Int.le_refl _⟩
  have hs:=zkc_ f c (R-P.length) P.length
  have hw:=zf_ (i:=c) (by omega)
  simp only [z5k_,hlt,decide_true,if_true,z75_,b1,and_self,z1bv_ hk hR hcC hP f,Option.bind_some]
  by_cases ha:zv_ f c (R-P.length) P.length=R
  ·have hm1:(-1:Int)<0:=by omega
   rw [if_pos ha,decide_eq_true hm1,if_pos rfl,hw]
   obtain ⟨det',h⟩:=ih (c+1) n f P 0 (by omega) (by omega) hf hP (by omega)
   refine ⟨det',?_⟩
   rw [h]
   simp only [gz,ha,if_true]
  ·have haR:zv_ f c (R-P.length) P.length<R:=by omega
   have hr:P.length<R:=by omega
   have hg:(gz p R (d+1) c f P)=gz p R d (c+1) (z3u_ p R f c P.length) (P++[(c:Int)]):=by simp only [gz,ha,if_false]
   have hbl:(P.length+1)*8≤LIM:=by omega
   have hpn:¬ p=0:=by omega
   have hfa:=hf (zv_ f c (R-P.length) P.length) c
   have hcols:0≤(C:Int)∧(C:Int)≤(C:Int)∧(C:Int)*8≤LIM:=⟨by omega,Int.le_refl _,by omega⟩
   have fin:∀ det,∃ det',z5k_ k n (C:Int) p det (C:Int) ((c+1:Nat):Int) (matF R C (z3u_ p R f c P.length)) (P++[(c:Int)]) E=E det' (matF R C (gz p R (d+1) c f P).1) (gz p R (d+1) c f P).2:=fun det=>by
    obtain ⟨det',h⟩:=ih (c+1) n (z3u_ p R f c P.length) (P++[(c:Int)]) det (by omega) (by omega) (zzo_ hp hf c _) (by simp; omega) (by simp; omega)
    exact ⟨det',by rw [h,hg]⟩
   rw [if_neg ha,decide_eq_false (by omega),if_neg (by simp)]
   by_cases hat:zv_ f c (R-P.length) P.length=P.length
   ·rw [decide_eq_false (by omega),if_neg (by simp)]
    rw [hat] at hfa
    simp only [Int.natCast_nonneg,Int.toNat_natCast,z75_,hr,and_self,if_true,z4p_ f hr,Option.bind_some,zdg_ f _ hcC,hpn,if_false,hcols,zzj_ hk hp hfa,zzq_ hk hC hp hf (z5m_ hp.1 _),zzr_ hr,List.length_set]
    rw [zzs_ hk hR hC hcC hr hp (zdj_ hp.1 hf _ (z5m_ hp.1 _).1)]
    simp only [List.length_singleton,hbl,if_true,hw]
    have he:clF (scF f p P.length (invF p (f P.length c))) p P.length c R=z3u_ p R f c P.length:=by unfold z3u_; rw [hat,zzp_]
    rw [he]
    exact fin _
   ·have hgt:(0:Int)<(zv_ f c (R-P.length) P.length:Int)-(P.length:Int):=by omega
    have hix:z0_ ((P.length:Int)+((zv_ f c (R-P.length) P.length:Int)-(P.length:Int)))=(zv_ f c (R-P.length) P.length:Int):=by rw [w_id (by omega) (by omega)]; omega
    obtain ⟨r,hred⟩:=z1bx_ (z0_ (0-det)) p hp.1
    have hv:swF f P.length (zv_ f c (R-P.length) P.length) P.length c=f (zv_ f c (R-P.length) P.length) c:=by unfold swF; rw [if_pos rfl]
    have hset:∀ (x:List Int),((matF R C f).set P.length x)[zv_ f c (R-P.length) P.length]?=some (rowF C f (zv_ f c (R-P.length) P.length)):=fun x=>by
     rw [List.getElem?_set_ne (fun h=>hat h.symm),z4p_ f haR]
    rw [decide_eq_true hgt,if_pos rfl]
    simp only [hix,Int.natCast_nonneg,Int.toNat_natCast,z75_,List.length_set,hr,haR,and_self,if_true,z4p_ f hr,z4p_ f haR,Option.bind_some,hset,hred,z1bw_ f hr haR hat,z4p_ _ hr,zdg_ _ _ hcC,hv,hpn,if_false,hcols,zzj_ hk hp hfa,zzq_ hk hC hp (zdi_ hf _ _) (z5m_ hp.1 _),zzr_ hr]
    rw [zzs_ hk hR hC hcC hr hp (zdj_ hp.1 (zdi_ hf _ _) _ (z5m_ hp.1 _).1)]
    simp only [List.length_singleton,hbl,if_true,hw]
    exact fin _
def fM (m:Mat) (C:Nat):Nat→Nat→Int:=fun i j=>m.2.2.2.getD (i*C+j) 0
theorem z1bz_ {m:Mat} {R C:Nat} (h:MatP m R C):m.2.2.2=celF R C (fM m C):=by
 refine List.ext_getElem? fun t=>?_
 rcases Nat.lt_or_ge t (R*C) with ht | ht
 ·have hl:t<m.2.2.2.length:=by rw [h.len]; exact ht
  unfold celF
  rw [List.getElem?_map,List.getElem?_range ht]
  unfold fM
  simp only [Option.map_some]
  rw [show t / C*C+t % C=t by rw [Nat.mul_comm]; exact Nat.div_add_mod t C,List.getD_eq_getElem?_getD,List.getElem?_eq_getElem hl]
  rfl
 ·rw [List.getElem?_eq_none (by rw [h.len]; exact ht),List.getElem?_eq_none (by rw [z49_]; exact ht)]
theorem z1c0_ {m:Mat} {R C:Nat} (h:MatP m R C):(List.range R).map (rowM m.2.2.2 C)=matF R C (fM m C):=by
 unfold matF
 refine List.map_congr_left fun i hi=>?_
 have hi:=List.mem_range.1 hi
 refine List.ext_getElem? fun j=>?_
 rcases Nat.lt_or_ge j C with hj | hj
 ·rw [z1bj_ hj,zdg_ _ _ hj]
  have hl:i*C+j<m.2.2.2.length:=by rw [h.len]; exact ixl hi hj
  unfold fM
  rw [List.getD_eq_getElem?_getD,List.getElem?_eq_getElem hl]
  rfl
 ·rw [List.getElem?_eq_none (by rw [zzb_ h.len hi]; exact hj),List.getElem?_eq_none (by rw [z1bm_]; exact hj)]
theorem zzt_ {m:Mat} {R C:Nat} (h:MatP m R C) (C':Nat):BdF m.1 (fM m C'):=fun i j=>by
 have hp:=h.prime
 unfold fM
 rw [List.getD_eq_getElem?_getD]
 cases hx:m.2.2.2[i*C'+j]? with
 | none=>exact ⟨by simp,by simp; omega⟩
 | some x=>exact ⟨(h.cells x (List.mem_of_getElem? hx)).1,h.lt x (List.mem_of_getElem? hx)⟩
theorem zpm_ (p:Int) (R:Nat):∀ d c f P,P.length≤R→(gz p R d c f P).2.length≤R
 | 0,_,_,_,h=>h
 | d+1,c,f,P,h=>by
  unfold gz
  split
  ·exact zpm_ p R d (c+1) f P h
  ·rename_i hne
   refine zpm_ p R d (c+1) _ _ ?_
   have:=zkc_ f c (R-P.length) P.length
   rw [List.length_append,List.length_singleton]
   omega
theorem z1c1_ {l:List Int} (h:l.length≤1048576):za3_ l=some l:=by
 have hL:=z1l_
 unfold za3_
 rw [if_pos (by simp only [List.length_nil]; omega)]
def redM (m:Mat) (R C:Nat):(Nat→Nat→Int)×List Int:=gz m.1 R C 0 (fM m C) []
theorem z1c2_ {k:Nat} (hk:KK≤k) {m:Mat} {R C:Nat} (h:MatP m R C):∃ det,zh3_ k m=some ((m.1,m.2.1,m.2.2.1,celF R C (redM m R C).1),(redM m R C).2,det):=by
 have hK:=zg_
 have h32:=h.c32
 have hr32:=h.r32
 have hp:=h.prime
 have hRC:R*C≤32*32:=Nat.mul_le_mul hr32 h32
 obtain ⟨det',e⟩:=z1bu_ hk h.rows (by omega) (by omega:C≤64) hp [] 0 0 0 m.1 m.2.1 m.2.2.1 (fun det_100 q_101 q_102 q_103 v_2a_104 v_2ba_105 v_2bba_106 v_5a_107 v_5ba_108 v_5bba_109=>some ((v_5a_107,(v_5ba_108,(v_5bba_109,q_103))),q_101,det_100)) C 0 k (fM m C) [] 1 (by omega) (by omega) (zzt_ h C) (Nat.zero_le _) (Nat.zero_le _)
 refine ⟨det',?_⟩
 unfold zh3_
 rw [z1c1_ (by rw [h.len]; omega)]
 simp only [Option.bind_some]
 rw [← z1bz_ h] at e
 rw [h.cols]
 rw [h.cols] at e
 exact e
theorem z1c3_ {k:Nat} (hk:KK≤k) {R C:Nat} (hR:R≤64) (hC:C≤64) {p:Int} (hp:2≤p∧p≤251) {f:Nat→Nat→Int} (hf:BdF p f):∃ det,zp1_ k (C:Int) p (matF R C f)=some ((((),(det,())),()),(matF R C (gz p R C 0 f []).1,(gz p R C 0 f []).2,()),()):=by
 have hK:=zg_
 obtain ⟨det',e⟩:=z1by_ hk hR hC hp (fun det_42 q_43 q_44=>some ((((),(det_42,())),()),(q_43,q_44,()),())) C 0 k f [] 1 (by omega) (by omega) hf (Nat.zero_le _) (Nat.zero_le _)
 exact ⟨det',e⟩
def rkM (m:Mat):Nat:=(redM m m.2.1.toNat m.2.2.1.toNat).2.length
theorem zpn_ {k:Nat} (hk:KK≤k) {m:Mat} {R C:Nat} (h:MatP m R C):zha_ k m=some (rkM m:Int)∧zjn_ k m=some (rkM m:Int)∧rkM m≤32:=by
 have h32:=h.c32
 have hr32:=h.r32
 have e:rkM m=(redM m R C).2.length:=by unfold rkM; rw [h.rows,h.cols,Int.toNat_natCast,Int.toNat_natCast]
 rw [e]
 obtain ⟨d1,e1⟩:=z1c2_ hk h
 obtain ⟨d2,e2⟩:=z1c3_ hk (R:=R) (C:=C) (by omega) (by omega) h.prime (zzt_ h C)
 refine ⟨?_,?_,?_⟩
 ·unfold zha_
  rw [e1]; rfl
 ·unfold zjn_
  rw [z1bl_ hk h,z1c0_ h]
  simp only [Option.bind_some]
  rw [h.cols,e2]
  simp only [Option.bind_some,z6u_]
  rfl
 ·have:=zpm_ m.1 R C 0 (fM m C) [] (Nat.zero_le _)
  exact Nat.le_trans this hr32
theorem zpo_ {α:Type} {R:α→α→Prop} (tr:∀ a b c,R a b→R b c→R a c):∀ {l:List α},(∀ (i:Nat) (a b:α),l[i]?=some a→l[i+1]?=some b→R a b)→l.Pairwise R
 | [],_=>List.Pairwise.nil
 | [a],_=>List.pairwise_singleton ..
 | a::b::l,h=>by
  have h0:=h 0 a b rfl rfl
  have ih:=zpo_ tr (l:=b::l) (fun i x y hx hy=>h (i+1) x y hx hy)
  refine List.Pairwise.cons (fun x hx=>?_) ih
  rcases List.mem_cons.1 hx with rfl | hx
  ·exact h0
  ·exact tr _ _ _ h0 ((List.pairwise_cons.1 ih).1 x hx)
theorem zzu_ {α:Type} {R:α→α→Prop} {l:List α} (h:l.Pairwise R) {i:Nat} {a b:α} (ha:l[i]?=some a) (hb:l[i+1]?=some b):R a b:=by
 obtain ⟨h1,rfl⟩:=List.getElem?_eq_some_iff.1 ha
 obtain ⟨h2,rfl⟩:=List.getElem?_eq_some_iff.1 hb
 exact List.pairwise_iff_getElem.1 h i (i+1) h1 h2 (by omega)
def z4a_ {α:Type} (R:α→α→Prop) (l:List α) (i:Nat) (x:α):Prop:=0<i→∀ t,l[i-1]?=some t→R t x
theorem zke_ {α:Type} {R:α→α→Prop} (tr:∀ a b c,R a b→R b c→R a c) {l:List α} {m:Nat} (h:∀ j,j<m→∀ x,l[j]?=some x→z4a_ R l j x):(l.take m).Pairwise R:=by
 refine zpo_ tr fun i a b ha hb=>?_
 have hi:i+1<m:=by
  have:=(List.getElem?_eq_some_iff.1 hb).1
  rw [List.length_take] at this; omega
 rw [List.getElem?_take_of_lt (by omega)] at ha
 rw [List.getElem?_take_of_lt hi] at hb
 exact h (i+1) hi b hb (by omega) a (by simpa using ha)
theorem zpp_ {α:Type} {R:α→α→Prop} {l:List α} (h:l.Pairwise R) {i:Nat} {x:α} (hx:l[i]?=some x):z4a_ R l i x:=fun h0 t ht=>by
 have e:i=(i-1)+1:=by omega
 rw [e] at hx
 exact zzu_ h ht hx
theorem z1c4_ {R:Type} {L:Nat→Int→R} {b:Nat} {p:Nat→Bool} {r e:R}
  (h1:∀ n (i:Nat),i<b→(∀ j,j<i→p j=true)→L (n+1) (i:Int)=if p i=true then L n ((i+1:Nat):Int) else r) (h2:∀ n,L (n+1) (b:Int)=e) {n:Nat} (hn:b<n):L n 0=if (List.range b).all p=true then e else r:=by
 refine z1h_ (α:=Nat) (A:=Unit) (L:=fun n i _=>L n i) (I:=fun pre _=>∀ j∈pre,p j=true) (G:=fun l _=>if l.all p=true then e else r) (List.range b) ?_ ?_ n (by simpa using hn) () (by simp)
 ·intro n pre x post _ hx hI ih hg hlt
  rw [List.length_range] at hlt
  have hxi:x=pre.length:=by
   rw [List.getElem?_range (by omega)] at hg
   simpa using hg.symm
  subst hxi
  have hpre:pre=List.range pre.length:=by
   have:=congrArg (List.take pre.length) hx
   rw [List.take_left,List.take_range] at this
   rw [Nat.min_eq_left (by omega)] at this
   exact this.symm
  rw [h1 n pre.length (by omega) (fun j hj=>hI j (by rw [hpre]; simpa using hj))]
  by_cases hp:p pre.length=true
  ·rw [if_pos hp,ih () (fun j hj=>by
    rcases List.mem_append.1 hj with hj | hj
    ·exact hI j hj
    ·rw [List.mem_singleton.1 hj]; exact hp)]
   simp [hp]
  ·rw [if_neg hp]; simp [hp]
 ·intro n _ _
  simpa using h2 n
structure SimpP (s:List Int):Prop where
 len1:1≤s.length
 len4:s.length≤4
 vert:∀ x∈s,0≤x∧x≤9
 rise:s.Pairwise (fun a b:Int=>a<b)
open Classical in
noncomputable def z76_ (s:List Int):Bool:=decide (SimpP s)
theorem z77_ {s:List Int}:z76_ s=true↔SimpP s:=by unfold z76_; simp
open Classical in
theorem z1c5_ {k:Nat} (hk:KK≤k) {s:List Int} (hs:s.length≤1000000000) (lo up:Int):zft_ k s lo up=some (decide ((∀ x∈s,lo≤x∧x≤up)∧s.Pairwise (fun a b:Int=>a<b))):=by
 have hK:=zg_
 unfold zft_
 have:=z6e_ (L:=fun n i=>z7y_ k n s lo up i (some true)) (b:=s.length) (p:=fun i=>decide (∀ x,s[i]?=some x→(lo≤x∧x≤up)∧z4a_ (fun a b:Int=>a<b) s i x)) (r:=some false) (e:=some true) ?_ ?_ (n:=k) (by omega)
 ·rw [this]
  have e:((List.range s.length).all (fun i=>decide (∀ x,s[i]?=some x→(lo≤x∧x≤up)∧z4a_ (fun a b:Int=>a<b) s i x))=true)↔((∀ x∈s,lo≤x∧x≤up)∧s.Pairwise (fun a b:Int=>a<b)):=by
   simp only [List.all_eq_true,List.mem_range,decide_eq_true_eq]
   constructor
   ·intro h
    refine ⟨fun x hx=>?_,?_⟩
    ·obtain ⟨i,hi,rfl⟩:=List.getElem_of_mem hx
     exact (h i hi _ (List.getElem?_eq_getElem hi)).1
    ·have:=zke_ (R:=fun a b:Int=>a<b) (fun a b c=>Int.lt_trans) (l:=s) (m:=s.length) (fun j hj x hx=>(h j hj x hx).2)
     rwa [List.take_length] at this
   ·rintro ⟨h1,h2⟩ i hi x hx
    exact ⟨h1 x (List.mem_of_getElem? hx),zpp_ h2 hx⟩
  by_cases c:((∀ x∈s,lo≤x∧x≤up)∧s.Pairwise (fun a b:Int=>a<b))
  ·rw [if_pos (e.2 c),decide_eq_true c]
  ·rw [if_neg (fun h=>c (e.1 h)),decide_eq_false c]
 ·intro n i hi
  have hlt:(i:Int)<(s.length:Int):=by omega
  have hw:=zf_ (i:=i) (by omega)
  have hg:s[i]?=some s[i]:=List.getElem?_eq_getElem hi
  simp only [z7y_,hlt,decide_true,if_true,Int.natCast_nonneg,Int.toNat_natCast,hg,Option.bind_some,hw,zdf_,Option.some.injEq,forall_eq']
  by_cases c1:lo≤s[i]∧s[i]≤up
  ·rw [decide_eq_true c1]
   simp only [Bool.not_true,Bool.false_eq_true,if_false]
   by_cases h0:0<i
   ·have h0':(0:Int)<(i:Int):=by omega
    have hw1:z0_ ((i:Int)-1)=((i-1:Nat):Int):=by rw [w_id (by omega) (by omega)]; omega
    have hg1:s[i-1]?=some s[i-1]:=List.getElem?_eq_getElem (by omega)
    simp only [h0',decide_true,if_true,hw1,Int.natCast_nonneg,Int.toNat_natCast,hg1,Option.bind_some]
    by_cases c2:s[i-1]<s[i]
    ·have:z4a_ (fun a b:Int=>a<b) s i s[i]:=fun _ t ht=>by rw [hg1] at ht; cases ht; exact c2
     rw [if_neg (by simp; omega),if_pos (decide_eq_true ⟨c1,this⟩)]
    ·have:¬ z4a_ (fun a b:Int=>a<b) s i s[i]:=fun h=>c2 (h h0 _ hg1)
     rw [if_pos (decide_eq_true (by omega)),if_neg (fun h=>this (of_decide_eq_true h).2)]
   ·have h0':¬ (0:Int)<(i:Int):=by omega
    have:z4a_ (fun a b:Int=>a<b) s i s[i]:=fun h=>absurd h h0
    rw [decide_eq_false h0',if_neg (by simp),if_pos (decide_eq_true ⟨c1,this⟩)]
  ·rw [decide_eq_false c1,if_pos (by simp),if_neg (fun h=>c1 (of_decide_eq_true h).1)]
 ·intro n
  simp only [z7y_,Int.lt_irrefl,decide_false,Bool.false_eq_true,if_false]
open Classical in
theorem z1c6_ {k:Nat} (hk:KK≤k) {s:List Int} (hs:s.length≤1000000000):zfv_ k s=some (z76_ s):=by
 unfold zfv_
 rw [zdf_]
 simp only [Option.bind_some,z1c5_ hk hs]
 by_cases c:(1:Int)≤(s.length:Int)∧(s.length:Int)≤4
 ·rw [decide_eq_true c,if_pos rfl]
  congr 1
  unfold z76_
  refine decide_eq_decide.2 ⟨fun h=>⟨by omega,by omega,h.1,h.2⟩,fun h=>⟨h.vert,h.rise⟩⟩
 ·rw [decide_eq_false c,if_neg (by simp)]
  congr 1
  unfold z76_
  rw [decide_eq_false (fun h:SimpP s=>c ⟨by have:=h.len1; omega,by have:=h.len4; omega⟩)]
open Classical in
theorem z1c7_ {k:Nat} (hk:KK≤k) {s:List Int} (hs:s.length≤1000000000):zhm_ k s=some (decide (s.Pairwise (fun a b:Int=>a<b))):=by
 have hK:=zg_
 unfold zhm_
 have key:∀ (d n i:Nat),s.length-i=d→d<n→0<i→(s.take i).Pairwise (fun a b:Int=>a<b)→zas_ k n s (i:Int) (some true)=some (decide (s.Pairwise (fun a b:Int=>a<b))):=by
  intro d
  induction d with
  | zero =>
   intro n i hd hn h0 hp
   obtain ⟨n,rfl⟩:∃ m,n=m+1:=⟨n-1,by omega⟩
   have:¬ (i:Int)<(s.length:Int):=by omega
   rw [List.take_of_length_le (by omega)] at hp
   simp only [zas_,this,decide_false,Bool.false_eq_true,if_false,decide_eq_true hp]
  | succ d ih =>
   intro n i hd hn h0 hp
   obtain ⟨n,rfl⟩:∃ m,n=m+1:=⟨n-1,by omega⟩
   have hi:i<s.length:=by omega
   have hlt:(i:Int)<(s.length:Int):=by omega
   have hw:=zf_ (i:=i) (by omega)
   have hw1:z0_ ((i:Int)-1)=((i-1:Nat):Int):=by rw [w_id (by omega) (by omega)]; omega
   have hg:s[i]?=some s[i]:=List.getElem?_eq_getElem hi
   have hg1:s[i-1]?=some s[i-1]:=List.getElem?_eq_getElem (by omega)
   simp only [zas_,hlt,decide_true,if_true,Int.natCast_nonneg,Int.toNat_natCast,hg,hg1,Option.bind_some,hw,hw1]
   by_cases c:s[i-1]<s[i]
   ·rw [decide_eq_false (show ¬ s[i]≤s[i-1] by omega),if_neg (by simp)]
    refine ih n (i+1) (by omega) (by omega) (by omega) ?_
    refine zpo_ (R:=fun a b:Int=>a<b) (fun a b c=>Int.lt_trans) fun j a b ha hb=>?_
    have hj:j+1<i+1:=by
     have:=(List.getElem?_eq_some_iff.1 hb).1
     rw [List.length_take] at this; omega
    rw [List.getElem?_take_of_lt (by omega)] at ha
    rw [List.getElem?_take_of_lt hj] at hb
    by_cases hji:j+1=i
    ·have e1:a=s[i-1]:=by
      have:s[j]?=s[i-1]?:=by rw [show j=i-1 by omega]
      rw [ha,hg1] at this
      exact Option.some.inj this
     have e2:b=s[i]:=by
      rw [hji,hg] at hb
      exact (Option.some.inj hb).symm
     rw [e1,e2]; exact c
    ·exact zzu_ hp (i:=j) (by rw [List.getElem?_take_of_lt (by omega)]; exact ha) (by rw [List.getElem?_take_of_lt (by omega)]; exact hb)
   ·rw [decide_eq_true (show s[i]≤s[i-1] by omega),if_pos rfl]
    congr 1
    refine (decide_eq_false fun h=>c ?_).symm
    exact List.pairwise_iff_getElem.1 h (i-1) i (by omega) hi (by omega)
 have h1:=key (s.length-1) k 1 rfl (by omega) (by omega) (by cases s with
  | nil=>simp
  | cons a l=>simp)
 exact h1
theorem z1c8_ {k:Nat} (hk:KK≤k) {s:List Int} (hs:s.length≤1000000000):zhq_ k s ()=some (s.any fun x=>!decide (0≤x∧x≤9)):=by
 have hK:=zg_
 unfold zhq_ znw_
 rw [zct_ (L:=fun n i=>zat_ k n s () (s.length:Int) i (some (-1))) (p:=fun x=>!decide (0≤x∧x≤9)) s ?_ ?_ (n:=k) (by omega)]
 ·rw [Option.bind_some,zk9_]
 ·intro n i x hi hlt
  have hw:=zf_ (i:=i) (by omega)
  simp only [zat_,znv_,znu_,zde_,hlt,decide_true,if_true,Int.natCast_nonneg,Int.toNat_natCast,hi,Option.bind_some,hw]
 ·intro n
  simp [zat_]
theorem z1c9_ {k:Nat} (hk:KK≤k) {s:List Int} (hs:s.length≤1000000000):zhr_ k s=some (z76_ s):=by
 unfold zhr_
 by_cases c1:1≤s.length
 ·rw [decide_eq_true (show (1:Int)≤(s.length:Int) by omega),if_pos rfl]
  by_cases c2:s.length≤4
  ·rw [decide_eq_true (show (s.length:Int)≤4 by omega),if_pos rfl,z1c7_ hk hs,z1c8_ hk hs]
   simp only [Option.bind_some]
   by_cases c3:s.Pairwise (fun a b:Int=>a<b)
   ·rw [decide_eq_true c3,if_pos rfl]
    congr 1
    rw [Bool.eq_iff_iff,z77_]
    simp only [Bool.not_eq_true',List.any_eq_false,Bool.not_eq_true,decide_eq_false_iff_not,Bool.not_eq_false',decide_eq_true_eq]
    exact ⟨fun h=>⟨c1,c2,fun x hx=>by simpa using h x hx,c3⟩,fun h x hx=>by simpa using h.vert x hx⟩
   ·rw [decide_eq_false c3,if_neg (by simp)]
    congr 1
    symm
    rw [Bool.eq_false_iff,ne_eq,z77_]
    exact fun h=>c3 h.rise
  ·rw [decide_eq_false (show ¬ (s.length:Int)≤4 by omega),if_neg (by simp)]
   congr 1
   symm
   rw [Bool.eq_false_iff,ne_eq,z77_]
   exact fun h=>c2 h.len4
 ·rw [decide_eq_false (show ¬ (1:Int)≤(s.length:Int) by omega),if_neg (by simp)]
  congr 1
  symm
  rw [Bool.eq_false_iff,ne_eq,z77_]
  exact fun h=>c1 h.len1
def cI (x y:Int):Int:=if x<y then -1 else if y<x then 1 else 0
theorem z1ca_ (x y:Int):zhw_ x y=some (cI x y):=by
 unfold zhw_ zhv_ cI
 by_cases h1:x<y
 ·simp [h1]
 ·by_cases h2:y<x <;> simp [h1,h2]
theorem z1cb_ (x y:Int):zhu_ x y=some (cI x y):=by
 unfold zhu_ zht_ cI
 by_cases h1:x<y
 ·simp [h1]
 ·by_cases h2:y<x <;> simp [h1,h2]
theorem z1cc_ {k:Nat} (hk:KK≤k) (a b:Int):znz_ k [a,b]=some (if a=0 then b else a):=by
 have hK:=zg_
 obtain ⟨m,rfl⟩:∃ m,k=m+3:=⟨k-3,by omega⟩
 generalize hf:m+3=k
 have hw0:z0_ 1=1:=w_id (by omega) (by omega)
 have hw1:z0_ 2=2:=w_id (by omega) (by omega)
 show z8b_ k k 0 [a,b] 2 0 (fun zero_2=>some zero_2)=_
 conv=>lhs; arg 2; rw [← hf]
 by_cases h:a=0
 ·by_cases h':b=0
  ·subst h; subst h'; simp [z8b_,hw0,hw1]
  ·subst h; simp [z8b_,hw0,hw1,h']
 ·simp [z8b_,h]
def lexB:List Int→List Int→Bool
 | x::a,y::b=>if x=y then lexB a b else decide (x<y)
 | _,_=>false
def befS (a b:List Int):Bool:=decide (a.length<b.length)||(decide (a.length=b.length)&&lexB a b)
theorem zzv_:∀ a:List Int,lexB a a=false
 | []=>rfl
 | x::a=>by simp [lexB,zzv_ a]
theorem zzw_:∀ a b c:List Int,a.length=b.length→b.length=c.length→lexB a b=true→lexB b c=true→lexB a c=true
 | [],_,_,_,_,h,_=>by simp [lexB] at h
 | _::_,[],_,_,_,h,_=>by simp [lexB] at h
 | _::_,_::_,[],_,_,_,h=>by simp [lexB] at h
 | x::a,y::b,z::c,h1,h2,h3,h4=>by
  simp only [lexB] at h3 h4 ⊢
  by_cases c1:x=y
  ·subst c1
   rw [if_pos rfl] at h3
   by_cases c2:x=z
   ·rw [if_pos c2] at h4 ⊢
    exact zzw_ a b c (by simpa using h1) (by simpa using h2) h3 h4
   ·rw [if_neg c2] at h4 ⊢; exact h4
  ·rw [if_neg c1,decide_eq_true_eq] at h3
   by_cases c2:y=z
   ·subst c2; rw [if_neg c1,decide_eq_true_eq]; exact h3
   ·rw [if_neg c2,decide_eq_true_eq] at h4
    rw [if_neg (by omega),decide_eq_true_eq]; omega
theorem zkf_ (a:List Int):befS a a=false:=by unfold befS; simp [zzv_]
theorem zdl_ {a b c:List Int} (h1:befS a b=true) (h2:befS b c=true):befS a c=true:=by
 unfold befS at *
 simp only [Bool.or_eq_true,Bool.and_eq_true,decide_eq_true_eq] at *
 rcases h1 with h1 | ⟨e1,h1⟩
 ·rcases h2 with h2 | ⟨e2,h2⟩
  ·left; omega
  ·left; omega
 ·rcases h2 with h2 | ⟨e2,h2⟩
  ·left; omega
  ·exact .inr ⟨by omega,zzw_ a b c e1 e2 h1 h2⟩
theorem z1cd_ {a b:List Int} (h:befS a b=true):befS b a=false:=by
 cases h':befS b a
 ·rfl
 ·have:=zdl_ h h'
  rw [zkf_] at this; cases this
def cmpL:List Int→List Int→Int
 | x::a,y::b=>if cI x y=0 then cmpL a b else cI x y
 | _::_,[]=>1
 | [],_::_ => -1
 | [],[]=>0
def z4r_ (a b:List Int):Int:=if cI (a.length:Int) (b.length:Int)=0 then cmpL a b else cI (a.length:Int) (b.length:Int)
theorem z8m_ (x y:Int):cI x y=0↔x=y:=by
 unfold cI
 by_cases h1:x<y
 ·rw [if_pos h1]; constructor <;> intro h <;> omega
 ·rw [if_neg h1]
  by_cases h2:y<x
  ·rw [if_pos h2]; constructor <;> intro h <;> omega
  ·rw [if_neg h2]; constructor <;> intro h <;> omega
theorem zzx_ (x y:Int):cI x y<0↔x<y:=by
 unfold cI
 by_cases h1:x<y
 ·rw [if_pos h1]; constructor <;> intro h <;> omega
 ·rw [if_neg h1]
  by_cases h2:y<x
  ·rw [if_pos h2]; constructor <;> intro h <;> omega
  ·rw [if_neg h2]; constructor <;> intro h <;> omega
theorem zzy_:∀ a b:List Int,cmpL a b=0↔a=b
 | [],[]=>by simp [cmpL]
 | _::_,[]=>by simp [cmpL]
 | [],_::_=>by simp [cmpL]
 | x::a,y::b=>by
  unfold cmpL
  by_cases c:cI x y=0
  ·rw [if_pos c,zzy_ a b,(z8m_ x y).1 c]; simp
  ·rw [if_neg c]
   have:x≠y:=fun e=>c ((z8m_ x y).2 e)
   simp [c,this]
theorem zzz_:∀ a b:List Int,a.length=b.length→(cmpL a b<0↔lexB a b=true)
 | [],[],_=>by simp [cmpL,lexB]
 | _::_,[],h=>by simp at h
 | [],_::_,h=>by simp at h
 | x::a,y::b,h=>by
  unfold cmpL lexB
  by_cases c:cI x y=0
  ·rw [if_pos c,if_pos ((z8m_ x y).1 c)]
   exact zzz_ a b (by simpa using h)
  ·rw [if_neg c,if_neg (fun e=>c ((z8m_ x y).2 e)),zzx_,decide_eq_true_eq]
theorem z100_ (a b:List Int):z4r_ a b=0↔a=b:=by
 unfold z4r_
 by_cases c:cI (a.length:Int) (b.length:Int)=0
 ·rw [if_pos c]; exact zzy_ a b
 ·rw [if_neg c]
  exact ⟨fun h=>absurd h c,fun h=>by rw [h] at c; exact absurd ((z8m_ _ _).2 rfl) c⟩
theorem z101_ (a b:List Int):decide (z4r_ a b<0)=befS a b:=by
 rw [Bool.eq_iff_iff,decide_eq_true_eq]
 unfold z4r_ befS
 simp only [Bool.or_eq_true,Bool.and_eq_true,decide_eq_true_eq]
 by_cases c:cI (a.length:Int) (b.length:Int)=0
 ·have e:=(z8m_ _ _).1 c
  rw [if_pos c,zzz_ a b (by omega)]
  constructor
  ·intro h; exact .inr ⟨by omega,h⟩
  ·rintro (h | h)
   ·omega
   ·exact h.2
 ·have e:¬ (a.length:Int)=(b.length:Int):=fun e=>c ((z8m_ _ _).2 e)
  rw [if_neg c,zzx_]
  constructor
  ·intro h; left; omega
  ·rintro (h | h)
   ·omega
   ·omega
theorem z1ce_ (a b:List Int):decide (0≤z4r_ a b)=!befS a b:=by
 rw [← z101_]
 by_cases h:z4r_ a b<0
 ·rw [decide_eq_true h,decide_eq_false (by omega)]; rfl
 ·rw [decide_eq_false h,decide_eq_true (by omega)]; rfl
theorem z1cf_ {k:Nat} (hk:KK≤k) {a b:List Int} (ha:a.length≤1000000000) (hb:b.length≤1000000000):zhy_ k a b=some (cmpL a b):=by
 have hK:=zg_
 unfold zhy_
 have key:∀ (d n i:Nat),a.length-i=d→d<n→zau_ k n a b a (a.length:Int) (i:Int) (fun s_4 s_5=>(if (decide ((List.length s_4:Int)<(List.length s_5:Int)))=true then some (-1) else some 0))=(if i≤a.length then some (if a.length≤i then (if i<b.length then -1 else 0) else cmpL (a.drop i) (b.drop i)) else some (if a.length<b.length then -1 else 0)):=by
  intro d
  induction d with
  | zero =>
   intro n i hd hn
   obtain ⟨n,rfl⟩:∃ m,n=m+1:=⟨n-1,by omega⟩
   have:¬ (i:Int)<(a.length:Int):=by omega
   simp only [zau_,this,decide_false,Bool.false_eq_true,if_false]
   by_cases h1:i≤a.length
   ·have:i=a.length:=by omega
    subst this
    rw [if_pos (Nat.le_refl _),if_pos (Nat.le_refl _)]
    by_cases h2:a.length<b.length
    ·rw [decide_eq_true (by omega),if_pos rfl,if_pos h2]
    ·rw [decide_eq_false (by omega),if_neg (by simp),if_neg h2]
   ·rw [if_neg h1]
    by_cases h2:a.length<b.length
    ·rw [decide_eq_true (by omega),if_pos rfl,if_pos h2]
    ·rw [decide_eq_false (by omega),if_neg (by simp),if_neg h2]
  | succ d ih =>
   intro n i hd hn
   obtain ⟨n,rfl⟩:∃ m,n=m+1:=⟨n-1,by omega⟩
   have hi:i<a.length:=by omega
   have hlt:(i:Int)<(a.length:Int):=by omega
   have hw:=zf_ (i:=i) (by omega)
   have da:a.drop i=a[i]::a.drop (i+1):=List.drop_eq_getElem_cons hi
   rw [if_pos (by omega),if_neg (by omega),da]
   simp only [zau_,hlt,decide_true,if_true,Int.natCast_nonneg,Int.toNat_natCast,List.getElem?_eq_getElem hi,Option.bind_some,hw]
   by_cases hb2:i<b.length
   ·have db:b.drop i=b[i]::b.drop (i+1):=List.drop_eq_getElem_cons hb2
    rw [db,decide_eq_false (by omega),if_neg (by simp),List.getElem?_eq_getElem hb2]
    simp only [Option.bind_some,z1ca_]
    unfold cmpL
    by_cases c:cI a[i] b[i]=0
    ·rw [decide_eq_true c,if_neg (by simp),if_pos c,ih n (i+1) (by omega) (by omega),if_pos (by omega)]
     by_cases h3:a.length≤i+1
     ·rw [if_pos h3,List.drop_of_length_le (l:=a) (by omega)]
      by_cases h4:i+1<b.length
      ·rw [if_pos h4,List.drop_eq_getElem_cons h4]; rfl
      ·rw [if_neg h4,List.drop_of_length_le (l:=b) (by omega)]; rfl
     ·rw [if_neg h3]
    ·rw [decide_eq_false c,if_pos (by simp),if_neg c]
   ·rw [List.drop_of_length_le (l:=b) (by omega),decide_eq_true (by omega),if_pos rfl]
    rfl
 have h0:=key a.length k 0 (by omega) (by omega)
 have hz:((0:Nat):Int)=0:=rfl
 rw [hz] at h0
 rw [h0,if_pos (Nat.zero_le _),List.drop_zero,List.drop_zero]
 by_cases c:a.length≤0
 ·have:a=[]:=List.length_eq_zero_iff.1 (by omega)
  subst this
  rw [if_pos c]
  cases b with
  | nil=>rfl
  | cons y b=>rw [if_pos (by simp)]; rfl
 ·rw [if_neg c]
theorem zkg_ {k:Nat} (hk:KK≤k) {a b:List Int} (ha:a.length≤1000000000) (hb:b.length≤1000000000):z8c_ k a b=some (z4r_ a b):=by
 unfold z8c_ z4r_
 rw [z1cb_,z1cf_ hk ha hb]
 simp only [Option.bind_some,z1cc_ hk]
theorem z1cg_ {k:Nat} (hk:KK≤k) {a b:List Int} (ha:a.length≤1000000000):zfw_ k a b=some (befS a b):=by
 have hK:=zg_
 unfold zfw_ befS
 by_cases hl:a.length=b.length
 ·rw [decide_eq_true (show (a.length:Int)=(b.length:Int) by omega),if_neg (by simp),decide_eq_false (by omega),decide_eq_true hl,Bool.false_or,Bool.true_and]
  have key:∀ (d n i:Nat),a.length-i=d→d<n→za1_ k n a b (i:Int) (some false)=some (lexB (a.drop i) (b.drop i)):=by
   intro d
   induction d with
   | zero =>
    intro n i hd hn
    obtain ⟨n,rfl⟩:∃ m,n=m+1:=⟨n-1,by omega⟩
    have:¬ (i:Int)<(a.length:Int):=by omega
    simp only [za1_,this,decide_false,Bool.false_eq_true,if_false]
    rw [List.drop_of_length_le (l:=a) (by omega)]; rfl
   | succ d ih =>
    intro n i hd hn
    obtain ⟨n,rfl⟩:∃ m,n=m+1:=⟨n-1,by omega⟩
    have hi:i<a.length:=by omega
    have hib:i<b.length:=by omega
    have hlt:(i:Int)<(a.length:Int):=by omega
    have hw:=zf_ (i:=i) (by omega)
    have da:a.drop i=a[i]::a.drop (i+1):=List.drop_eq_getElem_cons hi
    have db:b.drop i=b[i]::b.drop (i+1):=List.drop_eq_getElem_cons hib
    rw [da,db]
    unfold lexB
    simp only [za1_,hlt,decide_true,if_true,Int.natCast_nonneg,Int.toNat_natCast,List.getElem?_eq_getElem hi,List.getElem?_eq_getElem hib,Option.bind_some,hw]
    by_cases c:a[i]=b[i]
    ·rw [decide_eq_true c,if_neg (by simp),if_pos c]
     exact ih n (i+1) (by omega) (by omega)
    ·rw [decide_eq_false c,if_pos (by simp),if_neg c]
  exact key a.length k 0 (by omega) (by omega)
 ·rw [decide_eq_false (show ¬ (a.length:Int)=(b.length:Int) by omega),if_pos (by simp),decide_eq_false hl,Bool.false_and,Bool.or_false]
  exact congrArg some (decide_eq_decide.2 (by omega))
theorem z1ch_ {i j:Nat} (h:i+j<4611686018427387904):z0_ (Int.fdiv (z7v_ (z0_ ((i:Int)+(j:Int)))) (2 ^ 1))=(((i+j) / 2:Nat):Int):=by
 rw [w_id (x:=(i:Int)+j) (by omega) (by omega)]
 have hu:z7v_ ((i:Int)+(j:Int))=(i:Int)+j:=by unfold z7v_ IntKind.wrap; simp [IntKind.bits,IntKind.signed]; omega
 rw [hu,Int.fdiv_eq_ediv_of_nonneg _ (by omega),w_id (by omega) (by omega)]
 omega
abbrev Cx:=List (List Int)
def z1s_ (s:List Int) (k:Nat):List Int:=s.take k++s.drop (k+1)
theorem zpq_ {s:List Int} {k:Nat} (h:k<s.length):(z1s_ s k).length=s.length-1:=by
 unfold z1s_; rw [List.length_append,List.length_take,List.length_drop]; omega
structure CxP (c:Cx):Prop where
 len:c.length≤48
 simp:∀ s∈c,SimpP s
 ord:c.Pairwise (fun a b=>befS a b=true)
 face:∀ s∈c,1<s.length→∀ k,k<s.length→z1s_ s k∈c
open Classical in
noncomputable def cxB (c:Cx):Bool:=decide (CxP c)
theorem z78_ {c:Cx}:cxB c=true↔CxP c:=by unfold cxB; simp
def z2p_ (c:Cx):Prop:=c.length≤1048576∧∀ s∈c,s.length≤1048576
theorem z102_ {s:List Int} (hs:s.length≤1048576) {k:Nat} (h:k<s.length):zcv_ s (k:Int)=some (z1s_ s k):=by
 have hL:=z1l_
 have hw:=zf_ (i:=k) (by omega)
 have b1:(k:Int)≤(s.length:Int):=by omega
 have b2:((k+1:Nat):Int)≤(s.length:Int):=by omega
 unfold zcv_ za3_
 have hdr:(s.drop (k+1)).take (s.length-(k+1))=s.drop (k+1):=List.take_of_length_le (by rw [List.length_drop]; exact Nat.le_refl _)
 simp only [Int.natCast_nonneg,Int.le_refl,b1,and_self,if_true,Int.toNat_natCast]
 rw [if_pos (by simp only [List.length_nil,List.length_take]; omega)]
 simp only [Option.bind_some,hw,Int.natCast_nonneg,Int.toNat_natCast,b2,Int.le_refl,and_self,if_true,hdr]
 rw [if_pos (by simp only [List.length_take,List.length_drop]; omega)]
 rfl
def posC (c:Cx) (s:List Int):Nat:=c.findIdx (fun y=>decide (y=s))
theorem z5n_ {c:Cx} {s:List Int}:posC c s<c.length↔s∈c:=by
 unfold posC
 rw [List.findIdx_lt_length]
 constructor
 ·rintro ⟨x,hx,h⟩; rw [← of_decide_eq_true h]; exact hx
 ·intro h; exact ⟨s,h,decide_eq_true rfl⟩
theorem z103_ {c:Cx} {s:List Int} (h:s∈c):c[posC c s]?=some s:=by
 have hl:=z5n_.2 h
 rw [List.getElem?_eq_getElem hl]
 have:decide (c[posC c s]=s)=true:=List.findIdx_getElem (xs:=c) (p:=fun y=>decide (y=s)) (w:=hl)
 rw [of_decide_eq_true this]
theorem z1ci_ {k:Nat} (hk:KK≤k) {a b:List Int} (ha:a.length≤1000000000):zfy_ k a b=some (decide (a=b)):=by
 have hK:=zg_
 unfold zfy_
 by_cases hl:a.length=b.length
 ·rw [decide_eq_true (show (a.length:Int)=(b.length:Int) by omega),if_neg (by simp)]
  refine zcs_ (L:=fun n i=>za4_ k n a b i (some true)) a b hl ?_ ?_ (n:=k) (by omega)
  ·intro n i x y hx hy hlt
   have hw:=zf_ (i:=i) (by omega)
   by_cases e:x=y <;> simp [za4_,hlt,hx,hy,hw,e]
  ·intro n
   simp [za4_]
 ·have h2:a≠b:=fun e=>hl (by rw [e])
  rw [decide_eq_false (show ¬ (a.length:Int)=(b.length:Int) by omega),if_pos (by simp),decide_eq_false h2]
theorem z104_ {k:Nat} (hk:KK≤k) {c:Cx} (hc:z2p_ c) (s:List Int):zcw_ k c s=some (if posC c s<c.length then ((posC c s:Nat):Int) else -1):=by
 have hK:=zg_
 obtain ⟨h1,h2⟩:=hc
 unfold zcw_
 rw [zct_ (L:=fun m i=>za5_ k m c s i (some (-1))) (p:=fun y=>decide (y=s)) c ?_ ?_ (n:=k) (by omega)]
 ·unfold idxP posC
  cases hf:c.findIdx? (fun y=>decide (y=s)) with
  | some i =>
   obtain ⟨hlt,hp⟩:=List.findIdx?_eq_some_iff_findIdx_eq.1 hf
   rw [hp,if_pos hlt]
  | none =>
   rw [List.findIdx?_eq_none_iff] at hf
   have:¬ c.findIdx (fun y=>decide (y=s))<c.length:=fun h=>by
    obtain ⟨x,hx,h2⟩:=List.findIdx_lt_length.1 h
    rw [hf x hx] at h2; cases h2
   rw [if_neg this]
 ·intro m i x hi hlt
  have hw:=zf_ (i:=i) (by omega)
  have hxl:=h2 x (List.mem_of_getElem? hi)
  simp only [za5_,hlt,decide_true,if_true,Int.natCast_nonneg,Int.toNat_natCast,hi,Option.bind_some,hw,z1ci_ hk (show x.length≤1000000000 by omega)]
 ·intro m
  simp [za5_]
theorem z105_ (c:Cx) (s:List Int):decide ((if posC c s<c.length then ((posC c s:Nat):Int) else -1)<0)=!decide (s∈c):=by
 by_cases h:s∈c
 ·rw [if_pos (z5n_.2 h),decide_eq_false (by omega),decide_eq_true h]; rfl
 ·rw [if_neg (fun h2=>h (z5n_.1 h2)),decide_eq_false h]; rfl
theorem z1cj_ {k:Nat} (hk:KK≤k) {a b:List Int} (ha:a.length≤1048576) (hb:b.length≤1048576):zi3_ k [a,b]=some (a++b):=by
 have hK:=zg_
 have hL:=z1l_
 obtain ⟨n,rfl⟩:∃ n,k=n+3:=⟨k-3,by omega⟩
 have w1:z0_ (0+(a.length:Int))=(a.length:Int):=by rw [w_id (by omega) (by omega)]; omega
 have w2:z0_ ((a.length:Int)+(b.length:Int))=((a.length+b.length:Nat):Int):=by rw [w_id (by omega) (by omega)]; omega
 have w3:z0_ ((0:Int)+1)=1:=w_id (by omega) (by omega)
 have w4:z0_ ((1:Int)+1)=2:=w_id (by omega) (by omega)
 have n1:¬ ((a.length:Int)<0):=by omega
 have n2:¬ (((a.length+b.length:Nat):Int)<0):=by omega
 have l1:(((a.length+b.length:Nat):Int).toNat)*8≤LIM:=by simp only [Int.toNat_natCast]; omega
 have l2:a.length*8≤LIM:=by omega
 have l3:(a.length+b.length)*8≤LIM:=by omega
 unfold zi3_
 simp only [zi1_,List.length_cons,List.length_nil,Nat.zero_add,Nat.reduceAdd,show ((2:Nat):Int)=2 from rfl,w1,w2,w3,w4]
 simp only [zwv_,zi2_,w1,w2,w3,w4,n1,n2,true_and,l1,l2,l3,Int.natCast_nonneg,List.nil_append,decide_false,Bool.false_eq_true,if_false,if_true,Option.bind_some,and_self,List.getElem?_cons_zero,List.getElem?_cons_succ,show decide ((0:Int)<2)=true from rfl,show decide ((1:Int)<2)=true from rfl,show decide ((2:Int)<2)=false from rfl,show (0:Int).toNat=0 from rfl,show (1:Int).toNat=1 from rfl,show (0:Int)≤0 from Int.le_refl _,show (0:Int)≤1 by omega,List.length_cons,List.length_nil,Nat.zero_add,Nat.reduceAdd,show ((2:Nat):Int)=2 from rfl]
def z1i_ (s:List Int):Cx:=if 1<s.length then (List.range s.length).map (z1s_ s) else []
theorem z106_ {k:Nat} (hk:KK≤k) {s:List Int} (hs:s.length≤1048576):zav_ k s=some (z1i_ s):=by
 have hK:=zg_
 have hL:=z1l_
 unfold zav_
 have:=z1h_ (α:=Nat) (A:=Cx) (L:=fun n i q=>z8e_ k n s (s.length:Int) i q (fun q_3=>some q_3)) (I:=fun pre q=>q=(if 1<s.length then (List.range pre.length).map (z1s_ s) else [])) (G:=fun _ _=>some (z1i_ s)) (List.range s.length) ?_ ?_ k (by simp; omega) [] (by simp)
 ·exact this
 ·intro n pre x post q hx hq ih hg hlt
  rw [List.length_range] at hlt
  have hpl:pre.length<s.length:=by omega
  have hw:=zf_ (i:=pre.length) (by omega)
  simp only [z8e_,hlt,decide_true,if_true]
  by_cases c:1<s.length
  ·rw [if_pos c] at hq
   have b1:(pre.length:Int)≤(s.length:Int):=by omega
   have b2:((pre.length+1:Nat):Int)≤(s.length:Int):=by omega
   have hdr:(s.drop (pre.length+1)).take (s.length-(pre.length+1))=s.drop (pre.length+1):=List.take_of_length_le (by rw [List.length_drop]; exact Nat.le_refl _)
   have hcc:=z1cj_ hk (a:=s.take pre.length) (b:=s.drop (pre.length+1)) (by rw [List.length_take]; omega) (by rw [List.length_drop]; omega)
   have hlim:(q.length+1)*24≤LIM:=by rw [hq,List.length_map,List.length_range]; omega
   rw [decide_eq_true (by omega),if_pos rfl]
   simp only [Int.natCast_nonneg,Int.le_refl,Int.toNat_natCast,b1,hw,b2,and_self,if_true,hdr,hcc,Option.bind_some,List.length_singleton,hlim]
   refine ih _ ?_
   rw [if_pos c,hq,List.length_append,List.length_singleton,List.range_succ,List.map_append]
   rfl
  ·rw [decide_eq_false (by omega),if_neg (by simp),hw]
   exact ih _ (by rw [if_neg c] at hq ⊢; exact hq)
 ·intro n q hq
  rw [List.length_range] at hq ⊢
  simp only [z8e_,Int.lt_irrefl,decide_false,Bool.false_eq_true,if_false,hq]
  rfl
theorem zdm_ {s f:List Int}:f∈z1i_ s↔1<s.length∧∃ k,k<s.length∧f=z1s_ s k:=by
 unfold z1i_
 by_cases c:1<s.length
 ·rw [if_pos c,List.mem_map]
  constructor
  ·rintro ⟨k,hk,rfl⟩; exact ⟨c,k,List.mem_range.1 hk,rfl⟩
  ·rintro ⟨_,k,hk,rfl⟩; exact ⟨k,List.mem_range.2 hk,rfl⟩
 ·rw [if_neg c]; simp [c]
def lowC (c:Cx) (s:List Int):Nat:=c.findIdx (fun y=>!befS y s)
theorem z1ck_ (c:Cx) (s:List Int):lowC c s≤c.length:=List.findIdx_le_length
theorem z107_ {c:Cx} {s:List Int} {i:Nat} (h:i<lowC c s) (hi:i<c.length):befS c[i] s=true:=by
 have:=List.not_of_lt_findIdx h
 simpa using this
theorem z108_ {c:Cx} {s:List Int} (hs:c.Pairwise (fun a b=>befS a b=true)) {i:Nat} (h:lowC c s≤i) (hi:i<c.length):befS c[i] s=false:=by
 have hp:lowC c s<c.length:=by omega
 have h0:befS c[lowC c s] s=false:=by
  have:=List.findIdx_getElem (xs:=c) (p:=fun y=>!befS y s) (w:=hp)
  simp only [Bool.not_eq_true'] at this
  exact this
 by_cases e:i=lowC c s
 ·subst e; exact h0
 ·cases hb:befS c[i] s
  ·rfl
  ·have h1:=List.pairwise_iff_getElem.1 hs (lowC c s) i hp hi (by omega)
   rw [zdl_ h1 hb] at h0; cases h0
theorem z1cl_ {c:Cx} (hs:c.Pairwise (fun a b=>befS a b=true)) {s:List Int} (h:s∈c):lowC c s=posC c s:=by
 have hl:=z5n_.2 h
 have hg:=z103_ h
 rw [List.getElem?_eq_getElem hl] at hg
 have hg:=Option.some.inj hg
 have h1:¬ posC c s<lowC c s:=fun q=>by have:=z107_ q hl; rw [hg,zkf_] at this; cases this
 have h2:¬ lowC c s<posC c s:=fun q=>by
  have h3:=List.pairwise_iff_getElem.1 hs (lowC c s) (posC c s) (by omega) hl q
  rw [hg] at h3
  rw [z108_ hs (Nat.le_refl _) (by omega)] at h3; cases h3
 omega
theorem z1cm_ {k:Nat} (hk:KK≤k) {c:Cx} (hc:z2p_ c) (hs:c.Pairwise (fun a b=>befS a b=true)) {s:List Int} (hsl:s.length≤1048576) {e:Cx→List Int→Unit→Int→Int→Option (Int×Bool)} :
  ∀ (d:Nat) (i j n:Nat),j-i≤d→d<n→i≤lowC c s→lowC c s≤j→j≤c.length→z6t_ k n c s () (c.length:Int) (i:Int) (j:Int) e=e c s () (c.length:Int) ((lowC c s:Nat):Int):=by
 obtain ⟨hcl,hce⟩:=hc
 intro d
 induction d with
 | zero =>
  intro i j n h1 h2 h3 h4 h5
  obtain ⟨n,rfl⟩:∃ m,n=m+1:=⟨n-1,by omega⟩
  have hlt:¬ (i:Int)<(j:Int):=by omega
  simp only [z6t_,hlt,decide_false,Bool.false_eq_true,if_false]
  rw [show i=lowC c s by omega]
 | succ d ih =>
  intro i j n h1 h2 h3 h4 h5
  obtain ⟨n,rfl⟩:∃ m,n=m+1:=⟨n-1,by omega⟩
  by_cases hij:i<j
  ·have hlt:(i:Int)<(j:Int):=by omega
   have hm:(i+j) / 2<c.length:=by omega
   have hw:=zf_ (i:=(i+j) / 2) (by omega)
   have hml:=hce c[(i+j) / 2] (List.getElem_mem hm)
   simp only [z6t_,hlt,decide_true,if_true,z1ch_ (show i+j<4611686018427387904 by omega),Int.natCast_nonneg,Int.toNat_natCast,List.getElem?_eq_getElem hm,Option.bind_some,zkg_ hk (show (c[(i+j) / 2]).length≤1000000000 by omega) (show s.length≤1000000000 by omega),z101_,hw]
   by_cases hb:befS c[(i+j) / 2] s=true
   ·rw [if_pos hb]
    refine ih _ _ _ (by omega) (by omega) ?_ h4 h5
    by_cases hq:lowC c s≤(i+j) / 2
    ·rw [z108_ hs hq hm] at hb; cases hb
    ·omega
   ·rw [if_neg hb]
    refine ih _ _ _ (by omega) (by omega) h3 ?_ (by omega)
    by_cases hq:(i+j) / 2<lowC c s
    ·exact absurd (z107_ hq hm) hb
    ·omega
  ·have hlt:¬ (i:Int)<(j:Int):=by omega
   simp only [z6t_,hlt,decide_false,Bool.false_eq_true,if_false]
   rw [show i=lowC c s by omega]
theorem z109_ {k:Nat} (hk:KK≤k) {c:Cx} (hc:z2p_ c) (hs:c.Pairwise (fun a b=>befS a b=true)) {s:List Int} (hsl:s.length≤1048576):zd6_ k c s=some (if posC c s<c.length then ((posC c s:Nat):Int) else -1):=by
 have hK:=zg_
 have hcl:=hc.1
 have:=z1ck_ c s
 unfold zd6_ zo5_
 have h0:=z1cm_ hk hc hs hsl (e:=fun x_3 target_4 cmp_5 n_6 i_7=>(if (decide (i_7<n_6))=true then (if 0≤i_7 then (x_3[i_7.toNat]?).bind fun y_8=>(z8c_ k y_8 target_4).bind fun r_9=>some (i_7,(decide (r_9=0))) else none) else some (i_7,false))) c.length 0 c.length k (by omega) (by omega) (by omega) (by omega) (by omega)
 rw [show ((0:Nat):Int)=0 from rfl] at h0
 rw [h0]
 by_cases h:s∈c
 ·have hp:=z1cl_ hs h
  have hl:=z5n_.2 h
  have hg:=z103_ h
  rw [hp,if_pos hl,decide_eq_true (by omega),if_pos rfl]
  simp only [Int.natCast_nonneg,if_true,Int.toNat_natCast,hg,Option.bind_some,zkg_ hk (show s.length≤1000000000 by omega) (show s.length≤1000000000 by omega)]
  have:z4r_ s s=0:=(z100_ s s).2 rfl
  rw [this]; rfl
 ·rw [if_neg (fun q=>h (z5n_.1 q))]
  by_cases hl:lowC c s<c.length
  ·have hxl:=hc.2 c[lowC c s] (List.getElem_mem hl)
   rw [decide_eq_true (by omega),if_pos rfl]
   simp only [Int.natCast_nonneg,if_true,Int.toNat_natCast,List.getElem?_eq_getElem hl,Option.bind_some,zkg_ hk (show (c[lowC c s]).length≤1000000000 by omega) (show s.length≤1000000000 by omega)]
   have:¬ z4r_ c[lowC c s] s=0:=fun e=>h (by rw [← (z100_ _ _).1 e]; exact List.getElem_mem hl)
   rw [decide_eq_false this]; rfl
  ·rw [decide_eq_false (by omega),if_neg (by simp)]; rfl
open Classical in
noncomputable def cxAt (c d:Cx) (i:Nat):Bool:=decide (∀ s,c[i]?=some s→SimpP s∧z4a_ (fun a b=>befS a b=true) c i s∧(1<s.length→∀ k,k<s.length→z1s_ s k∈d))
open Classical in
theorem z2d_ {c d:Cx} {i:Nat} {s:List Int} (h:c[i]?=some s):cxAt c d i=true↔SimpP s∧z4a_ (fun a b=>befS a b=true) c i s∧(1<s.length→∀ k,k<s.length→z1s_ s k∈d):=by
 unfold cxAt
 rw [decide_eq_true_eq]
 exact ⟨fun q=>q s h,fun q t ht=>by rw [h] at ht; cases ht; exact q⟩
open Classical in
theorem z1cn_ {k:Nat} (hk:KK≤k) {c:Cx} (hc:z2p_ c):zgf_ k c=some (cxB c):=by
 have hK:=zg_
 obtain ⟨hcl,hce⟩:=hc
 unfold zgf_
 by_cases h48:c.length≤48
 ·rw [decide_eq_false (by omega),if_neg (by simp)]
  have:=z6e_ (L:=fun n i=>z46_ k n c i (some true)) (b:=c.length) (p:=fun i=>cxAt c c i) (r:=some false) (e:=some true) ?_ ?_ (n:=k) (by omega)
  ·rw [this]
   have e:(List.range c.length).all (fun i=>cxAt c c i)=true↔CxP c:=by
    rw [List.all_eq_true]
    constructor
    ·intro h
     have h':∀ i s,c[i]?=some s→SimpP s∧z4a_ (fun a b=>befS a b=true) c i s∧(1<s.length→∀ k,k<s.length→z1s_ s k∈c):=fun i s hs=>(z2d_ hs).1 (h i (List.mem_range.2 (List.getElem?_eq_some_iff.1 hs).1))
     refine ⟨h48,fun s hs=>?_,?_,fun s hs=>?_⟩
     ·obtain ⟨i,hi⟩:=List.getElem?_of_mem hs
      exact (h' i s hi).1
     ·have:=zke_ (R:=fun a b=>befS a b=true) (fun a b c=>zdl_) (l:=c) (m:=c.length) (fun j hj x hx=>(h' j x hx).2.1)
      rwa [List.take_length] at this
     ·obtain ⟨i,hi⟩:=List.getElem?_of_mem hs
      exact (h' i s hi).2.2
    ·intro h i hi
     rw [List.mem_range] at hi
     exact (z2d_ (List.getElem?_eq_getElem hi)).2 ⟨h.simp _ (List.getElem_mem hi),zpp_ h.ord (List.getElem?_eq_getElem hi),h.face _ (List.getElem_mem hi)⟩
   by_cases q:CxP c
   ·rw [if_pos (e.2 q),z78_.2 q]
   ·rw [if_neg (fun h=>q (e.1 h))]
    congr 1
    symm
    rw [Bool.eq_false_iff,ne_eq,z78_]; exact q
  ·intro n i hi
   have hlt:(i:Int)<(c.length:Int):=by omega
   have hw:=zf_ (i:=i) (by omega)
   have hg:c[i]?=some c[i]:=List.getElem?_eq_getElem hi
   have hsl:=hce c[i] (List.getElem_mem hi)
   have hin:z5d_ k k c (i:Int) c[i] 0 (fun c_5 i_6=>z46_ k n c_5 (z0_ (i_6+1)) (some true))=if (∀ k,1<(c[i]).length→k<(c[i]).length→z1s_ c[i] k∈c) then z46_ k n c ((i+1:Nat):Int) (some true) else some false:=by
    by_cases h1:1<(c[i]).length
    ·have:=z6e_ (L:=fun m j=>z5d_ k m c (i:Int) c[i] j (fun c_5 i_6=>z46_ k n c_5 (z0_ (i_6+1)) (some true))) (b:=(c[i]).length) (p:=fun j=>decide (z1s_ c[i] j∈c)) (r:=some false) (e:=z46_ k n c ((i+1:Nat):Int) (some true)) ?_ ?_ (n:=k) (by omega)
     ·rw [this]
      simp only [List.all_eq_true,List.mem_range,decide_eq_true_eq]
      by_cases q:∀ j,j<(c[i]).length→z1s_ c[i] j∈c
      ·rw [if_pos q,if_pos (fun j _ hj=>q j hj)]
      ·rw [if_neg q,if_neg (fun h=>q fun j hj=>h j h1 hj)]
     ·intro m j hj
      have hjlt:(j:Int)<((c[i]).length:Int):=by omega
      have hw2:=zf_ (i:=j) (by omega)
      simp only [z5d_,hjlt,decide_true,if_true,decide_eq_true (show (1:Int)<((c[i]).length:Int) by omega),z102_ hsl hj,Option.bind_some,z104_ hk ⟨hcl,hce⟩,z105_,hw2]
      by_cases q:z1s_ c[i] j∈c
      ·rw [decide_eq_true q]; simp
      ·rw [decide_eq_false q]; simp
     ·intro m
      simp only [z5d_,Int.lt_irrefl,decide_false,Bool.false_eq_true,if_false,hw]
    ·rw [if_pos (fun j h=>absurd h h1)]
     obtain ⟨m,hm⟩:∃ m,k=m+1:=⟨k-1,by omega⟩
     have hn1:¬ (1:Int)<((c[i]).length:Int):=by omega
     conv=>lhs; arg 2; rw [hm]
     simp only [z5d_,hn1,decide_false,Bool.false_eq_true,if_false,hw]
     split <;> rfl
   simp only [z46_,hlt,decide_true,if_true,Int.natCast_nonneg,Int.toNat_natCast,hg,Option.bind_some,z1c6_ hk (show (c[i]).length≤1000000000 by omega)]
   cases hsb:z76_ c[i] with
   | false =>
    have:¬ cxAt c c i=true:=fun h=>by
     have:=z77_.2 ((z2d_ hg).1 h).1
     rw [hsb] at this; cases this
    rw [if_neg this]; simp
   | true =>
    have hsp:=z77_.1 hsb
    simp only [Bool.not_true,Bool.false_eq_true,if_false]
    by_cases h0:0<i
    ·have h0':(0:Int)<(i:Int):=by omega
     have hw1:z0_ ((i:Int)-1)=((i-1:Nat):Int):=by rw [w_id (by omega) (by omega)]; omega
     have hg1:c[i-1]?=some c[i-1]:=List.getElem?_eq_getElem (by omega)
     have hpl:=hce c[i-1] (List.getElem_mem (by omega))
     simp only [h0',decide_true,if_true,hw1,Int.natCast_nonneg,Int.toNat_natCast,hg1,Option.bind_some,z1cg_ hk (show (c[i-1]).length≤1000000000 by omega)]
     cases hbf:befS c[i-1] c[i] with
     | false =>
      have:¬ cxAt c c i=true:=fun h=>by
       have:befS c[i-1] c[i]=true:=((z2d_ hg).1 h).2.1 h0 _ hg1
       rw [hbf] at this; cases this
      rw [if_neg this]; simp
     | true =>
      simp only [Bool.not_true,Bool.false_eq_true,if_false,hin]
      by_cases q:∀ k,1<(c[i]).length→k<(c[i]).length→z1s_ c[i] k∈c
      ·rw [if_pos q,if_pos ((z2d_ hg).2 ⟨hsp,fun _ t ht=>by rw [hg1] at ht; cases ht; exact hbf,fun a b=>q b a⟩)]
      ·rw [if_neg q,if_neg (fun h=>q fun b a=>((z2d_ hg).1 h).2.2 a b)]
    ·have h0':¬ (0:Int)<(i:Int):=by omega
     simp only [h0',decide_false,Bool.false_eq_true,if_false,hin]
     by_cases q:∀ k,1<(c[i]).length→k<(c[i]).length→z1s_ c[i] k∈c
     ·rw [if_pos q,if_pos ((z2d_ hg).2 ⟨hsp,fun h=>absurd h h0,fun a b=>q b a⟩)]
     ·rw [if_neg q,if_neg (fun h=>q fun b a=>((z2d_ hg).1 h).2.2 a b)]
  ·intro n
   simp only [z46_,Int.lt_irrefl,decide_false,Bool.false_eq_true,if_false]
 ·rw [decide_eq_true (by omega),if_pos rfl]
  congr 1
  symm
  rw [Bool.eq_false_iff,ne_eq,z78_]
  exact fun h=>h48 h.len
theorem z1co_ {c:Cx} (hc:z2p_ c) (i:Nat):z2p_ (c.take i):=⟨by rw [List.length_take]; have:=hc.1; omega,fun s hs=>hc.2 s (List.mem_of_mem_take hs)⟩
theorem z1cp_ {k:Nat} (hk:KK≤k) {c:Cx} (hc:z2p_ c) {i:Nat} (hi:i≤c.length) (hs:(c.take i).Pairwise (fun a b=>befS a b=true)) {s:List Int} (hsl:s.length≤1048576):zd8_ k (z1i_ s) (c,(i:Int))=some ((z1i_ s).any fun f=>!decide (f∈c.take i)):=by
 have hK:=zg_
 have hcl:=hc.1
 have hfl:(z1i_ s).length≤1048576:=by
  unfold z1i_
  split
  ·rw [List.length_map,List.length_range]; exact hsl
  ·simp
 unfold zd8_ zo8_
 rw [zct_ (L:=fun n j=>zaw_ k n (z1i_ s) (c,(i:Int)) ((z1i_ s).length:Int) j (some (-1))) (p:=fun f=>!decide (f∈c.take i)) (z1i_ s) ?_ ?_ (n:=k) (by omega)]
 ·rw [Option.bind_some,zk9_]
 ·intro n j f hj hlt
  have hw:=zf_ (i:=j) (by omega)
  have hf:f.length≤1048576:=by
   obtain ⟨_,q,hq,rfl⟩:=zdm_.1 (List.mem_of_getElem? hj)
   rw [zpq_ hq]; omega
  have b1:(i:Int)≤(c.length:Int):=by omega
  simp only [zaw_,zo7_,hlt,decide_true,if_true,Int.natCast_nonneg,Int.le_refl,b1,and_self,Int.toNat_natCast,hj,Option.bind_some,z109_ hk (z1co_ hc i) hs hf,z105_,hw]
 ·intro n
  simp [zaw_]
theorem zkh_ {s:List Int} {d:Cx}:((z1i_ s).any fun f=>!decide (f∈d))=false↔(1<s.length→∀ k,k<s.length→z1s_ s k∈d):=by
 rw [List.any_eq_false]
 constructor
 ·intro h h1 k hk
  have:=h _ (zdm_.2 ⟨h1,k,hk,rfl⟩)
  simpa using this
 ·intro h f hf
  obtain ⟨h1,k,hk,rfl⟩:=zdm_.1 hf
  simpa using h h1 k hk
theorem z1cq_ {k:Nat} (hk:KK≤k) {c:Cx} (hc:z2p_ c):zic_ k c=some (cxB c):=by
 have hK:=zg_
 obtain ⟨hcl,hce⟩:=hc
 unfold zic_
 have:=z1c4_ (L:=fun n i=>z8g_ k n c (c.length:Int) i c (fun v_9=>some (decide ((List.length v_9:Int)≤48)))) (b:=c.length) (p:=fun i=>cxAt c (c.take i) i) (r:=some false) (e:=some (decide (c.length≤48))) ?_ ?_ (n:=k) (by omega)
 ·rw [this]
  have e:((List.range c.length).all (fun i=>cxAt c (c.take i) i)=true∧c.length≤48)↔CxP c:=by
   rw [List.all_eq_true]
   constructor
   ·rintro ⟨h,h48⟩
    have h':∀ i s,c[i]?=some s→SimpP s∧z4a_ (fun a b=>befS a b=true) c i s∧(1<s.length→∀ k,k<s.length→z1s_ s k∈c.take i):=fun i s hs=>(z2d_ hs).1 (h i (List.mem_range.2 (List.getElem?_eq_some_iff.1 hs).1))
    refine ⟨h48,fun s hs=>?_,?_,fun s hs h1 k hk=>?_⟩
    ·obtain ⟨i,hi⟩:=List.getElem?_of_mem hs
     exact (h' i s hi).1
    ·have:=zke_ (R:=fun a b=>befS a b=true) (fun a b c=>zdl_) (l:=c) (m:=c.length) (fun j hj x hx=>(h' j x hx).2.1)
     rwa [List.take_length] at this
    ·obtain ⟨i,hi⟩:=List.getElem?_of_mem hs
     exact List.mem_of_mem_take ((h' i s hi).2.2 h1 k hk)
   ·intro h
    refine ⟨fun i hi=>?_,h.len⟩
    rw [List.mem_range] at hi
    have hg:c[i]?=some c[i]:=List.getElem?_eq_getElem hi
    refine (z2d_ hg).2 ⟨h.simp _ (List.getElem_mem hi),zpp_ h.ord hg,fun h1 k hk=>?_⟩
    have hm:=h.face _ (List.getElem_mem hi) h1 k hk
    obtain ⟨j,hj⟩:=List.getElem?_of_mem hm
    obtain ⟨hjl,hje⟩:=List.getElem?_eq_some_iff.1 hj
    have hji:j<i:=by
     by_cases q:j<i
     ·exact q
     ·have hb:befS (z1s_ c[i] k) c[i]=true:=by
       unfold befS
       rw [zpq_ hk,decide_eq_true (by omega)]; rfl
      by_cases q2:j=i
      ·subst q2
       have:=zkf_ c[j]
       rw [← hje,zkf_] at hb; cases hb
      ·have h3:=List.pairwise_iff_getElem.1 h.ord i j hi hjl (by omega)
       rw [hje,z1cd_ hb] at h3; cases h3
    rw [List.mem_take_iff_getElem]
    exact ⟨j,by omega,hje⟩
  by_cases q:CxP c
  ·obtain ⟨q1,q2⟩:=e.2 q
   rw [if_pos q1,decide_eq_true q2,z78_.2 q]
  ·have:cxB c=false:=by rw [Bool.eq_false_iff,ne_eq,z78_]; exact q
   rw [this]
   by_cases q1:(List.range c.length).all (fun i=>cxAt c (c.take i) i)=true
   ·rw [if_pos q1,decide_eq_false (fun q2=>q (e.1 ⟨q1,q2⟩))]
   ·rw [if_neg q1]
 ·intro n i hi hpre
  have hlt:(i:Int)<(c.length:Int):=by omega
  have hw:=zf_ (i:=i) (by omega)
  have hg:c[i]?=some c[i]:=List.getElem?_eq_getElem hi
  have hsl:=hce c[i] (List.getElem_mem hi)
  have hsorted:(c.take i).Pairwise (fun a b=>befS a b=true):=zke_ (R:=fun a b=>befS a b=true) (fun a b c=>zdl_) (fun j hj x hx=>((z2d_ hx).1 (hpre j hj)).2.1)
  simp only [z8g_,hlt,decide_true,if_true,Int.natCast_nonneg,Int.toNat_natCast,hg,Option.bind_some,z1c9_ hk (show (c[i]).length≤1000000000 by omega),z106_ hk hsl,z1cp_ hk ⟨hcl,hce⟩ (Nat.le_of_lt hi) hsorted hsl,hw]
  cases hsb:z76_ c[i] with
  | false =>
   have:¬ cxAt c (c.take i) i=true:=fun h=>by
    have:=z77_.2 ((z2d_ hg).1 h).1
    rw [hsb] at this; cases this
   rw [if_neg this]; simp
  | true =>
   have hsp:=z77_.1 hsb
   simp only [Bool.not_true,Bool.false_eq_true,if_false]
   by_cases h0:0<i
   ·have h0':(0:Int)<(i:Int):=by omega
    have hw1:z0_ ((i:Int)-1)=((i-1:Nat):Int):=by rw [w_id (by omega) (by omega)]; omega
    have hg1:c[i-1]?=some c[i-1]:=List.getElem?_eq_getElem (by omega)
    have hpl:=hce c[i-1] (List.getElem_mem (by omega))
    simp only [h0',decide_true,if_true,hw1,Int.natCast_nonneg,Int.toNat_natCast,hg1,Option.bind_some,zkg_ hk (show (c[i-1]).length≤1000000000 by omega) (show (c[i]).length≤1000000000 by omega),z1ce_]
    cases hbf:befS c[i-1] c[i] with
    | false =>
     have:¬ cxAt c (c.take i) i=true:=fun h=>by
      have:befS c[i-1] c[i]=true:=((z2d_ hg).1 h).2.1 h0 _ hg1
      rw [hbf] at this; cases this
     rw [if_neg this]; simp
    | true =>
     simp only [Bool.not_true,Bool.false_eq_true,if_false]
     cases hq:(z1i_ c[i]).any fun f=>!decide (f∈c.take i) with
     | false =>
      rw [if_neg (by simp),if_pos ((z2d_ hg).2 ⟨hsp,fun _ t ht=>by rw [hg1] at ht; cases ht; exact hbf,zkh_.1 hq⟩)]
     | true =>
      rw [if_pos rfl,if_neg (fun h=>by rw [zkh_.2 ((z2d_ hg).1 h).2.2] at hq; cases hq)]
   ·have h0':¬ (0:Int)<(i:Int):=by omega
    simp only [h0',decide_false,Bool.false_eq_true,if_false]
    cases hq:(z1i_ c[i]).any fun f=>!decide (f∈c.take i) with
    | false =>
     rw [if_neg (by simp),if_pos ((z2d_ hg).2 ⟨hsp,fun h=>absurd h h0,zkh_.1 hq⟩)]
    | true =>
     rw [if_pos rfl,if_neg (fun h=>by rw [zkh_.2 ((z2d_ hg).1 h).2.2] at hq; cases hq)]
 ·intro n
  have e2:decide ((c.length:Int)≤48)=decide (c.length≤48):=decide_eq_decide.2 (by omega)
  simp only [z8g_,Int.lt_irrefl,decide_false,Bool.false_eq_true,if_false,e2]
abbrev She:=Cx×Int×List Int×List Mat
def ofC (c:Cx) (d:Int):List Nat:=(List.range c.length).filter fun i=>match c[i]? with | some s=>decide ((s.length:Int)=d+1) | none=>false
theorem zki_ {c:Cx} {d:Int} {i:Nat} (h:i∈ofC c d):i<c.length:=List.mem_range.1 (List.mem_filter.1 h).1
theorem z10a_ (c:Cx) (d:Int):(ofC c d).length≤c.length:=by
 unfold ofC
 exact Nat.le_trans (List.length_filter_le ..) (by rw [List.length_range]; exact Nat.le_refl _)
theorem zkj_ (f:Nat→Bool) (n:Nat):(List.range (n+1)).filter f=(List.range n).filter f++(if f n=true then [n] else []):=by
 rw [List.range_succ,List.filter_append,List.filter_cons,List.filter_nil]
theorem z1cr_ {k:Nat} (hk:KK≤k) {c:Cx} (hc:z2p_ c) {d:Int} (hd : -1000≤d∧d≤1000):zgk_ k c d=some ((ofC c d).map fun i:Nat=>(i:Int)):=by
 have hK:=zg_
 have hL:=z1l_
 obtain ⟨hcl,hce⟩:=hc
 have hwd:z0_ (d+1)=d+1:=w_id (by omega) (by omega)
 unfold zgk_
 have:=z1h_ (α:=List Int) (A:=List Int) (L:=fun n i q=>z83_ k n c d i q (fun q_4=>some q_4)) (I:=fun pre q=>q=((List.range pre.length).filter fun i=>match c[i]? with | some s=>decide ((s.length:Int)=d+1) | none=>false).map fun i:Nat=>(i:Int)) (G:=fun _ _=>some ((ofC c d).map fun i:Nat=>(i:Int))) c ?_ ?_ k (by omega) [] (by simp)
 ·exact this
 ·intro n pre x post q hx hq ih hg hlt
  have hw:=zf_ (i:=pre.length) (by omega)
  have hql:q.length≤pre.length:=by rw [hq,List.length_map]; exact Nat.le_trans (List.length_filter_le ..) (by rw [List.length_range]; exact Nat.le_refl _)
  have hlim:(q.length+1)*8≤LIM:=by omega
  simp only [z83_,hlt,decide_true,if_true,Int.natCast_nonneg,Int.toNat_natCast,hg,Option.bind_some,hw,hwd,List.length_singleton,hlim]
  by_cases hb:(x.length:Int)=d+1
  ·rw [decide_eq_true hb,if_pos rfl]
   refine ih _ ?_
   rw [List.length_append,List.length_singleton,zkj_,hg]
   simp only [hb,decide_true,if_true,List.map_append,hq,List.map_cons,List.map_nil]
  ·rw [decide_eq_false hb,if_neg (by simp)]
   refine ih _ ?_
   rw [List.length_append,List.length_singleton,zkj_,hg]
   simp only [hb,decide_false,Bool.false_eq_true,if_false,List.append_nil,hq]
 ·intro n q hq
  simp only [z83_,Int.lt_irrefl,decide_false,Bool.false_eq_true,if_false,hq]
  rfl
theorem z1cs_ {k:Nat} (hk:KK≤k) {c:Cx} (hc:z2p_ c) {d:Int} (hd : -1000≤d∧d≤1000):zil_ k c d=some ((ofC c d).map fun i:Nat=>(i:Int)):=by
 have hK:=zg_
 have hL:=z1l_
 obtain ⟨hcl,hce⟩:=hc
 have hwd:z0_ (d+1)=d+1:=w_id (by omega) (by omega)
 unfold zil_
 have:=z1h_ (α:=List Int) (A:=List Int) (L:=fun n i q=>z8h_ k n d c (c.length:Int) i q (fun q_4=>some q_4)) (I:=fun pre q=>q=((List.range pre.length).filter fun i=>match c[i]? with | some s=>decide ((s.length:Int)=d+1) | none=>false).map fun i:Nat=>(i:Int)) (G:=fun _ _=>some ((ofC c d).map fun i:Nat=>(i:Int))) c ?_ ?_ k (by omega) [] (by simp)
 ·exact this
 ·intro n pre x post q hx hq ih hg hlt
  have hw:=zf_ (i:=pre.length) (by omega)
  have hql:q.length≤pre.length:=by rw [hq,List.length_map]; exact Nat.le_trans (List.length_filter_le ..) (by rw [List.length_range]; exact Nat.le_refl _)
  have hlim:(q.length+1)*8≤LIM:=by omega
  simp only [z8h_,z6u_,hlt,decide_true,if_true,Int.natCast_nonneg,Int.toNat_natCast,hg,Option.bind_some,hw,hwd,List.length_singleton,hlim]
  by_cases hb:(x.length:Int)=d+1
  ·rw [decide_eq_true hb,if_pos rfl]
   refine ih _ ?_
   rw [List.length_append,List.length_singleton,zkj_,hg]
   simp only [hb,decide_true,if_true,List.map_append,hq,List.map_cons,List.map_nil]
  ·rw [decide_eq_false hb,if_neg (by simp)]
   refine ih _ ?_
   rw [List.length_append,List.length_singleton,zkj_,hg]
   simp only [hb,decide_false,Bool.false_eq_true,if_false,List.append_nil,hq]
 ·intro n q hq
  simp only [z8h_,Int.lt_irrefl,decide_false,Bool.false_eq_true,if_false,hq]
  rfl
structure StP (c:Cx) (st:List Int):Prop where
 len:st.length=c.length
 val:∀ x∈st,0≤x∧x≤3
def z1o_ (st:List Int) (l:List Nat):Int:=(l.map fun i=>st.getD i 0).sum
theorem z10b_ (st:List Int) (l:List Nat) (i:Nat):z1o_ st (l++[i])=z1o_ st l+st.getD i 0:=by unfold z1o_; simp
theorem z4s_ {c:Cx} {st:List Int} (h:StP c st) {i:Nat} (hi:i<c.length):st[i]?=some (st.getD i 0)∧0≤st.getD i 0∧st.getD i 0≤3:=by
 have hl:i<st.length:=by rw [h.len]; exact hi
 have e:st.getD i 0=st[i]:=by rw [List.getD_eq_getElem?_getD,List.getElem?_eq_getElem hl]; rfl
 rw [e]
 exact ⟨List.getElem?_eq_getElem hl,h.val _ (List.getElem_mem hl)⟩
theorem zpr_ {c:Cx} {st:List Int} (h:StP c st):∀ (l:List Nat),(∀ i∈l,i<c.length)→0≤z1o_ st l∧z1o_ st l≤3*l.length
 | [],_=>by simp [z1o_]
 | i::l,hl=>by
  have ih:=zpr_ h l (fun j hj=>hl j (by simp [hj]))
  have:=z4s_ h (hl i (by simp))
  have e:z1o_ st (i::l)=st.getD i 0+z1o_ st l:=by unfold z1o_; simp
  rw [e,List.length_cons]
  omega
theorem z1ct_ {k:Nat} (hk:KK≤k) {c:Cx} (hc:z2p_ c) {st:List Int} (h:StP c st) {d:Int} (hd : -1000≤d∧d≤1000):zgn_ k c st d=some (z1o_ st (ofC c d)):=by
 have hK:=zg_
 have hol:=z10a_ c d
 have hcl:=hc.1
 unfold zgn_
 rw [z1cr_ hk hc hd]
 simp only [Option.bind_some]
 have:=z1h_ (α:=Nat) (A:=Int) (L:=fun n i z=>zad_ k n st z i ((ofC c d).map fun i:Nat=>(i:Int)) (fun z=>some z)) (I:=fun pre z=>z=z1o_ st pre) (G:=fun _ _=>some (z1o_ st (ofC c d))) (ofC c d) ?_ ?_ k (by omega) 0 rfl
 ·exact this
 ·intro n pre x post z hx hz ih hg hlt
  have hw:=zf_ (i:=pre.length) (by omega)
  have hxc:x<c.length:=zki_ (by rw [hx]; simp:x∈ofC c d)
  have hF:((ofC c d).map fun i:Nat=>(i:Int))[pre.length]?=some (x:Int):=by rw [List.getElem?_map,hg]; rfl
  have hpl:pre.length<(ofC c d).length:=by omega
  obtain ⟨s1,s2,s3⟩:=z4s_ h hxc
  have hb:=zpr_ h pre (fun j hj=>zki_ (by rw [hx]; simp [hj]:j∈ofC c d))
  have hwz:z0_ (z+st.getD x 0)=z+st.getD x 0:=w_id (by omega) (by omega)
  simp only [zad_,List.length_map,hlt,hpl,decide_true,if_true,Int.natCast_nonneg,Int.toNat_natCast,and_self,hF,s1,Option.bind_some,hw,hwz]
  exact ih _ (by rw [z10b_,hz])
 ·intro n z hz
  simp only [zad_,List.length_map,Int.lt_irrefl,decide_false,Bool.false_eq_true,if_false,hz]
theorem z1cu_ {k:Nat} (hk:KK≤k) {s:She} (hc:z2p_ s.1) (h:StP s.1 s.2.2.1) {d:Int} (hd : -1000≤d∧d≤1000):zio_ k s d=some (z1o_ s.2.2.1 (ofC s.1 d)):=by
 have hK:=zg_
 have hol:=z10a_ s.1 d
 have hcl:=hc.1
 unfold zio_
 rw [z1cs_ hk hc hd]
 simp only [Option.bind_some,List.length_map]
 have:=z1h_ (α:=Nat) (A:=Int) (L:=fun n i z=>zaz_ k n z ((ofC s.1 d).length:Int) i ((ofC s.1 d).map fun i:Nat=>(i:Int)) s (fun z=>some z)) (I:=fun pre z=>z=z1o_ s.2.2.1 pre) (G:=fun _ _=>some (z1o_ s.2.2.1 (ofC s.1 d))) (ofC s.1 d) ?_ ?_ k (by omega) 0 rfl
 ·exact this
 ·intro n pre x post z hx hz ih hg hlt
  have hw:=zf_ (i:=pre.length) (by omega)
  have hxc:x<s.1.length:=zki_ (by rw [hx]; simp:x∈ofC s.1 d)
  have hF:((ofC s.1 d).map fun i:Nat=>(i:Int))[pre.length]?=some (x:Int):=by rw [List.getElem?_map,hg]; rfl
  have hpl:pre.length<(ofC s.1 d).length:=by omega
  obtain ⟨s1,s2,s3⟩:=z4s_ h hxc
  have hb:=zpr_ h pre (fun j hj=>zki_ (by rw [hx]; simp [hj]:j∈ofC s.1 d))
  have hwz:z0_ (z+s.2.2.1.getD x 0)=z+s.2.2.1.getD x 0:=w_id (by omega) (by omega)
  simp only [zaz_,List.length_map,hlt,hpl,decide_true,if_true,Int.natCast_nonneg,Int.toNat_natCast,and_self,hF,s1,Option.bind_some,hw,hwz]
  exact ih _ (by rw [z10b_,hz])
 ·intro n z hz
  simp only [zaz_,Int.lt_irrefl,decide_false,Bool.false_eq_true,if_false,hz]
noncomputable instance stP_dec (c:Cx) (st:List Int):Decidable (StP c st):=Classical.propDecidable _
noncomputable def stB (c:Cx) (st:List Int):Bool:=decide (StP c st)&&(List.range 4).all fun d=>decide (z1o_ st (ofC c (d:Int))≤32)
theorem zps_ {c:Cx} {st:List Int} (h:stB c st=true):StP c st:=by
 unfold stB at h
 rw [Bool.and_eq_true,decide_eq_true_eq] at h
 exact h.1
theorem z10c_ {c:Cx} {st:List Int}:(st.all (fun x=>decide (0≤x∧x≤4-1))&&decide ((st.length:Int)=(c.length:Int)))=true↔StP c st:=by
 simp only [Bool.and_eq_true,List.all_eq_true,decide_eq_true_eq]
 exact ⟨fun h=>⟨by omega,fun x hx=>by have:=h.1 x hx; omega⟩,fun h=>⟨fun x hx=>by have:=h.val x hx; omega,by have:=h.len; omega⟩⟩
theorem z1cv_ {k:Nat} (hk:KK≤k) {c:Cx} (hc:z2p_ c) {st:List Int} (hs:st.length≤1048576):zgq_ k c st=some (stB c st):=by
 have hK:=zg_
 unfold zgq_
 rw [zza_ hk hs _ (by omega)]
 simp only [Option.bind_some]
 by_cases h:StP c st
 ·rw [z10c_.2 h]
  simp only [Bool.not_true,Bool.false_eq_true,if_false]
  have:=z6e_ (L:=fun n i=>zae_ k n c st i (some true)) (b:=4) (p:=fun d:Nat=>decide (z1o_ st (ofC c (d:Int))≤32)) (r:=some false) (e:=some true) ?_ ?_ (n:=k) (by omega)
  ·rw [this]
   unfold stB
   rw [decide_eq_true h,Bool.true_and]
   cases (List.range 4).all fun d=>decide (z1o_ st (ofC c (d:Int))≤32) <;> rfl
  ·intro n i hi
   have hlt:(i:Int)≤3:=by omega
   have hw:=zf_ (i:=i) (by omega)
   simp only [zae_,hlt,decide_true,if_true,z1ct_ hk hc h (d:=(i:Int)) (by omega),Option.bind_some,hw]
   by_cases c1:z1o_ st (ofC c (i:Int))≤32
   ·rw [decide_eq_true c1,decide_eq_false (by omega),if_neg (by simp),if_pos rfl]
   ·rw [decide_eq_false c1,decide_eq_true (by omega),if_pos rfl,if_neg (by simp)]
  ·intro n
   have:¬ (((4:Nat):Int)≤3):=by omega
   simp only [zae_,this,decide_false,Bool.false_eq_true,if_false]
 ·have h2:(st.all (fun x=>decide (0≤x∧x≤4-1))&&decide ((st.length:Int)=(c.length:Int)))=false:=by rw [Bool.eq_false_iff,ne_eq,z10c_]; exact h
  rw [h2,if_pos (by simp)]
  unfold stB
  rw [decide_eq_false h]; rfl
theorem z1cw_ {k:Nat} (hk:KK≤k) {c:Cx} (hc:z2p_ c) {st:List Int} (hs:st.length≤1048576):zir_ k c st=some (stB c st):=by
 have hK:=zg_
 have hcf:zii_ k st ()=some (st.any fun x=>!decide (0≤x∧x≤3)):=by
  unfold zii_ zod_
  rw [zct_ (L:=fun n i=>zay_ k n st () (st.length:Int) i (some (-1))) (p:=fun x=>!decide (0≤x∧x≤3)) st ?_ ?_ (n:=k) (by omega)]
  ·rw [Option.bind_some,zk9_]
  ·intro n i x hi hlt
   have hw:=zf_ (i:=i) (by omega)
   simp only [zay_,zoc_,zde_,hlt,decide_true,if_true,Int.natCast_nonneg,Int.toNat_natCast,hi,Option.bind_some,hw]
  ·intro n
   simp [zay_]
 unfold zir_
 rw [hcf]
 simp only [Option.bind_some]
 by_cases hl:st.length=c.length
 ·rw [decide_eq_true (show (st.length:Int)=(c.length:Int) by omega),if_neg (by simp)]
  by_cases hv:∀ x∈st,0≤x∧x≤3
  ·have h:StP c st:=⟨hl,hv⟩
   have ha:(st.any fun x=>!decide (0≤x∧x≤3))=false:=by
    rw [List.any_eq_false]; intro x hx; simp [hv x hx]
   rw [ha,if_neg (by simp)]
   have:=z6e_ (L:=fun n i=>zb0_ k n st i c (some true)) (b:=4) (p:=fun d:Nat=>decide (z1o_ st (ofC c (d:Int))≤32)) (r:=some false) (e:=some true) ?_ ?_ (n:=k) (by omega)
   ·rw [this]
    unfold stB
    rw [decide_eq_true h,Bool.true_and]
    cases (List.range 4).all fun d=>decide (z1o_ st (ofC c (d:Int))≤32) <;> rfl
   ·intro n i hi
    have hlt:(i:Int)<4:=by omega
    have hw:=zf_ (i:=i) (by omega)
    have hst:=z1cu_ hk (s:=(c,0,st,[])) hc h (d:=(i:Int)) (by omega)
    simp only at hst
    simp only [zb0_,hlt,decide_true,if_true,hst,Option.bind_some,hw]
    by_cases c1:z1o_ st (ofC c (i:Int))≤32
    ·rw [decide_eq_true c1,decide_eq_false (by omega),if_neg (by simp),if_pos rfl]
    ·rw [decide_eq_false c1,decide_eq_true (by omega),if_pos rfl,if_neg (by simp)]
   ·intro n
    have:¬ (((4:Nat):Int)<4):=by omega
    simp only [zb0_,this,decide_false,Bool.false_eq_true,if_false]
  ·have ha:(st.any fun x=>!decide (0≤x∧x≤3))=true:=by
    rw [List.any_eq_true]
    apply Classical.byContradiction
    intro hn
    apply hv
    intro x hx
    apply Classical.byContradiction
    intro hx2
    exact hn ⟨x,hx,by simp only [Bool.not_eq_true',decide_eq_false_iff_not]; exact hx2⟩
   rw [ha,if_pos rfl]
   unfold stB
   rw [decide_eq_false (fun h:StP c st=>hv h.val)]; rfl
 ·rw [decide_eq_false (show ¬ (st.length:Int)=(c.length:Int) by omega),if_pos (by simp)]
  unfold stB
  rw [decide_eq_false (fun h:StP c st=>hl h.len)]; rfl
def zm_ (c:Cx) (s:List Int):List Nat:=(z1i_ s).map (posC c)
theorem z10d_ (s:List Int):(z1i_ s).length=if 1<s.length then s.length else 0:=by
 unfold z1i_
 split
 ·rw [List.length_map,List.length_range]
 ·rfl
theorem zbp_ (c:Cx) (s:List Int):(zm_ c s).length=if 1<s.length then s.length else 0:=by unfold zm_; rw [List.length_map,z10d_]
theorem z10e_ {c:Cx} (h:CxP c) {s:List Int} (hs:s∈c) {f:Nat} (hf:f∈zm_ c s):f<c.length:=by
 unfold zm_ at hf
 obtain ⟨g,hg,rfl⟩:=List.mem_map.1 hf
 obtain ⟨h1,j,hj,rfl⟩:=zdm_.1 hg
 exact z5n_.2 (h.face s hs h1 j hj)
theorem z10f_ {c:Cx} (h:CxP c):z2p_ c:=⟨by have:=h.len; omega,fun s hs=>by have:=(h.simp s hs).len4; omega⟩
theorem z10g_ {k:Nat} (hk:KK≤k) {c:Cx} (h:CxP c) {j:Nat} {s:List Int} (hj:c[j]?=some s):zd1_ k c (j:Int)=some ((zm_ c s).map fun i:Nat=>(i:Int)):=by
 have hK:=zg_
 have hL:=z1l_
 have hm:=List.mem_of_getElem? hj
 have hs4:=(h.simp s hm).len4
 have hsc:=z10f_ h
 unfold zd1_
 rw [if_pos (Int.natCast_nonneg _),Int.toNat_natCast,hj]
 simp only [Option.bind_some]
 by_cases c1:1<s.length
 ·have:=z1h_ (α:=Nat) (A:=List Int) (L:=fun n i q=>z85_ k n c s i q (fun q_5=>some q_5)) (I:=fun pre q=>q=(List.range pre.length).map fun i=>((posC c (z1s_ s i):Nat):Int)) (G:=fun _ _=>some ((zm_ c s).map fun i:Nat=>(i:Int))) (List.range s.length) ?_ ?_ k (by simp; omega) [] (by simp)
  ·exact this
  ·intro n pre x post q hx hq ih hg hlt
   rw [List.length_range] at hlt
   have hpl:pre.length<s.length:=by omega
   have hw:=zf_ (i:=pre.length) (by omega)
   have hlim:(q.length+1)*8≤LIM:=by rw [hq,List.length_map,List.length_range]; omega
   have hin:=h.face s hm c1 pre.length hpl
   have c1':(1:Int)<(s.length:Int):=by omega
   simp only [z85_,hlt,c1',decide_true,if_true,z102_ (show s.length≤1048576 by omega) hpl,z104_ hk hsc,z5n_.2 hin,Option.bind_some,List.length_singleton,hlim,hw]
   refine ih _ ?_
   rw [hq,List.length_append,List.length_singleton,List.range_succ,List.map_append]
   rfl
  ·intro n q hq
   rw [List.length_range] at hq ⊢
   simp only [z85_,Int.lt_irrefl,decide_false,Bool.false_eq_true,if_false,hq]
   unfold zm_ z1i_
   rw [if_pos c1,List.map_map,List.map_map]
   rfl
 ·obtain ⟨n,hn⟩:∃ n,k=n+1:=⟨k-1,by omega⟩
  have c1':¬ (1:Int)<(s.length:Int):=by omega
  conv=>lhs; arg 2; rw [hn]
  simp only [z85_,c1',decide_false,Bool.false_eq_true,if_false]
  unfold zm_ z1i_
  rw [if_neg c1]
  split <;> rfl
theorem z10h_ {k:Nat} (hk:KK≤k) {c:Cx} (h:CxP c) {j:Nat} {s:List Int} (hj:c[j]?=some s):zda_ k c (j:Int)=some ((zm_ c s).map fun i:Nat=>(i:Int)):=by
 have hK:=zg_
 have hL:=z1l_
 have hm:=List.mem_of_getElem? hj
 have hs4:=(h.simp s hm).len4
 have hsc:=z10f_ h
 have hfl:=z10d_ s
 have hfl':(z1i_ s).length≤4:=by rw [hfl]; split <;> omega
 unfold zda_
 rw [if_pos (Int.natCast_nonneg _),Int.toNat_natCast,hj]
 simp only [Option.bind_some,z106_ hk (show s.length≤1048576 by omega)]
 have:=z1h_ (α:=List Int) (A:=List Int) (L:=fun n i q=>zb2_ k n ((z1i_ s).length:Int) i q (z1i_ s) c (fun q_8=>some q_8)) (I:=fun pre q=>q=pre.map fun f=>((posC c f:Nat):Int)) (G:=fun _ _=>some ((zm_ c s).map fun i:Nat=>(i:Int))) (z1i_ s) ?_ ?_ k (by omega) [] rfl
 ·exact this
 ·intro n pre x post q hx hq ih hg hlt
  have hpl:pre.length<(z1i_ s).length:=by omega
  have hw:=zf_ (i:=pre.length) (by omega)
  have hlim:(q.length+1)*8≤LIM:=by rw [hq,List.length_map]; omega
  obtain ⟨h1,i,hi,rfl⟩:=zdm_.1 (List.mem_of_getElem? hg)
  have hin:=h.face s hm h1 i hi
  simp only [zb2_,hlt,hpl,decide_true,if_true,Int.natCast_nonneg,Int.toNat_natCast,and_self,hg,z109_ hk hsc h.ord (show (z1s_ s i).length≤1048576 by rw [zpq_ hi]; omega),z5n_.2 hin,Option.bind_some,List.length_singleton,hlim,hw]
  exact ih _ (by rw [hq,List.map_append]; rfl)
 ·intro n q hq
  simp only [zb2_,Int.lt_irrefl,decide_false,Bool.false_eq_true,if_false,hq]
  unfold zm_
  rw [List.map_map]
  rfl
def z1w_ (c:Cx) (j:Nat):List (Nat×Nat×Nat):=match c[j]? with
 | some s=>(List.range (zm_ c s).length).map fun i=>(j,i,(zm_ c s).getD i 0)
 | none=>[]
def arrN (c:Cx) (n:Nat):List (Nat×Nat×Nat):=(List.range n).flatMap (z1w_ c)
theorem z8n_ (c:Cx) (n:Nat):arrN c (n+1)=arrN c n++z1w_ c n:=by unfold arrN; rw [List.range_succ,List.flatMap_append]; simp
theorem zkk_ {c:Cx} {j:Nat} {s:List Int} (hj:c[j]?=some s):(z1w_ c j).length=if 1<s.length then s.length else 0:=by
 unfold z1w_; rw [hj]; simp only [List.length_map,List.length_range,zbp_]
theorem z10i_ {c:Cx} {j i:Nat} {s:List Int} (hj:c[j]?=some s) (hi:i<(zm_ c s).length):(z1w_ c j)[i]?=some (j,i,(zm_ c s).getD i 0):=by
 unfold z1w_; rw [hj]; simp only [List.getElem?_map,List.getElem?_range hi]; rfl
theorem z5o_ {c:Cx} (h:CxP c):∀ n,n≤c.length→(arrN c n).length≤4*n
 | 0,_=>by simp [arrN]
 | n+1,hn=>by
  have ih:=z5o_ h n (by omega)
  have hg:c[n]?=some c[n]:=List.getElem?_eq_getElem (by omega)
  have h4:=(h.simp _ (List.mem_of_getElem? hg)).len4
  rw [z8n_,List.length_append,zkk_ hg]
  split <;> omega
theorem z1cx_ (c:Cx) {a b:Nat} (h:a≤b):(arrN c a).length≤(arrN c b).length:=by
 induction b with
 | zero=>rw [show a=0 by omega]; exact Nat.le_refl _
 | succ b ih =>
  by_cases e:a=b+1
  ·rw [e]; exact Nat.le_refl _
  ·have:=ih (by omega)
   rw [z8n_,List.length_append]; omega
theorem zpt_ {k:Nat} (hk:KK≤k) {c:Cx} (h:CxP c) {j i:Nat} (hj:j≤c.length) (hi:i≤4):zag_ k c (j:Int) (i:Int)=some (((arrN c j).length+i:Nat):Int):=by
 have hK:=zg_
 have hcl:=h.len
 unfold zag_
 have:=z1h_ (α:=Nat) (A:=Int) (L:=fun n p z=>z84_ k n c (j:Int) (i:Int) z p (fun i_3 at_4=>some (z0_ (at_4+i_3)))) (I:=fun pre z=>z=((arrN c pre.length).length:Int)) (G:=fun _ _=>some (((arrN c j).length+i:Nat):Int)) (List.range j) ?_ ?_ k (by simp; omega) 0 rfl
 ·exact this
 ·intro n pre x post z hx hz ih hg hlt
  rw [List.length_range] at hlt
  have hpl:pre.length<c.length:=by omega
  have hw:=zf_ (i:=pre.length) (by omega)
  have hgc:c[pre.length]?=some c[pre.length]:=List.getElem?_eq_getElem hpl
  have h4:=(h.simp _ (List.mem_of_getElem? hgc)).len4
  have hal:=z5o_ h pre.length (by omega)
  have hnx:(arrN c (pre.length+1)).length=(arrN c pre.length).length+(if 1<(c[pre.length]).length then (c[pre.length]).length else 0):=by rw [z8n_,List.length_append,zkk_ hgc]
  simp only [z84_,hlt,decide_true,if_true,Int.natCast_nonneg,Int.toNat_natCast,hgc,Option.bind_some,hw]
  by_cases c1:1<(c[pre.length]).length
  ·have hwz:z0_ (z+((c[pre.length]).length:Int))=z+((c[pre.length]).length:Int):=w_id (by omega) (by omega)
   rw [decide_eq_true (by omega),if_pos rfl,hwz]
   refine ih _ ?_
   rw [if_pos c1] at hnx
   rw [List.length_append,List.length_singleton,hnx,hz]; rfl
  ·rw [decide_eq_false (by omega),if_neg (by simp)]
   refine ih _ ?_
   rw [if_neg c1] at hnx
   rw [List.length_append,List.length_singleton,hnx,hz]; rfl
 ·intro n z hz
  rw [List.length_range] at hz ⊢
  have hal:=z5o_ h j hj
  have hwz:z0_ (z+(i:Int))=(((arrN c j).length+i:Nat):Int):=by rw [w_id (by omega) (by omega)]; omega
  simp only [z84_,Int.lt_irrefl,decide_false,Bool.false_eq_true,if_false,hwz]
def toI3 (a:Nat×Nat×Nat):Int×Int×Int:=((a.1:Int),(a.2.1:Int),(a.2.2:Int))
theorem z1cy_ {k:Nat} (hk:KK≤k) {c:Cx} (h:CxP c):ziv_ k c=some ((arrN c c.length).map toI3):=by
 have hK:=zg_
 have hL:=z1l_
 have hcl:=h.len
 unfold ziv_ zoi_
 simp only [Option.bind_some]
 have:=z1h_ (α:=List Int) (A:=List (Int×Int×Int)) (L:=fun n i q=>zb3_ k n (c.length:Int) i q c (fun q_8=>some q_8)) (I:=fun pre q=>q=(arrN c pre.length).map toI3) (G:=fun _ _=>some ((arrN c c.length).map toI3)) c ?_ ?_ k (by omega) [] rfl
 ·exact this
 ·intro n pre x post q hx hq ih hg hlt
  have hw:=zf_ (i:=pre.length) (by omega)
  have hpl:pre.length<c.length:=by omega
  have h4:=(h.simp _ (List.mem_of_getElem? hg)).len4
  have hal:=z5o_ h pre.length (by omega)
  have hfl:=zbp_ c x
  have hfl4:(zm_ c x).length≤4:=by rw [hfl]; split <;> omega
  simp only [zb3_,hlt,decide_true,if_true,z10h_ hk h hg,Option.bind_some,List.length_map]
  have inner:∀ E:Int→Int→List (Int×Int×Int)→Cx→Option (List (Int×Int×Int)),z6v_ k k (pre.length:Int) (c.length:Int) (pre.length:Int) ((zm_ c x).length:Int) 0 q ((zm_ c x).map fun i:Nat=>(i:Int)) c E=E (c.length:Int) (pre.length:Int) ((arrN c (pre.length+1)).map toI3) c:=by
   intro E
   have:=z1h_ (α:=Nat) (A:=List (Int×Int×Int)) (L:=fun n i r=>z6v_ k n (pre.length:Int) (c.length:Int) (pre.length:Int) ((zm_ c x).length:Int) i r ((zm_ c x).map fun i:Nat=>(i:Int)) c E) (I:=fun pre2 r=>r=((arrN c pre.length)++(List.range pre2.length).map fun i=>(pre.length,i,(zm_ c x).getD i 0)).map toI3) (G:=fun _ _=>E (c.length:Int) (pre.length:Int) ((arrN c (pre.length+1)).map toI3) c) (zm_ c x) ?_ ?_ k (by omega) q (by simp [hq])
   ·exact this
   ·intro n pre2 f post2 r hx2 hr ih2 hg2 hlt2
    have hpl2:pre2.length<(zm_ c x).length:=by omega
    have hw2:=zf_ (i:=pre2.length) (by omega)
    have hF:((zm_ c x).map fun i:Nat=>(i:Int))[pre2.length]?=some (f:Int):=by rw [List.getElem?_map,hg2]; rfl
    have hlim:(r.length+1)*24≤LIM:=by rw [hr,List.length_map,List.length_append,List.length_map,List.length_range]; omega
    have hgd:(zm_ c x).getD pre2.length 0=f:=by rw [List.getD_eq_getElem?_getD,hg2]; rfl
    simp only [z6v_,List.length_map,hlt2,hpl2,decide_true,if_true,Int.natCast_nonneg,Int.toNat_natCast,and_self,hF,Option.bind_some,List.length_singleton,hlim,hw2]
    refine ih2 _ ?_
    rw [hr,List.length_append,List.length_singleton,List.range_succ,List.map_append (l₁:=List.range pre2.length),← List.append_assoc,List.map_append (f:=toI3) (l₁:=arrN c pre.length++_)]
    show _=_++[toI3 (pre.length,pre2.length,(zm_ c x).getD pre2.length 0)]
    rw [hgd]; rfl
   ·intro n r hr
    have e:z1w_ c pre.length=(List.range (zm_ c x).length).map fun i=>(pre.length,i,(zm_ c x).getD i 0):=by unfold z1w_; rw [hg]
    simp only [z6v_,Int.lt_irrefl,decide_false,Bool.false_eq_true,if_false,hr]
    rw [z8n_,e]
  rw [inner,hw]
  exact ih _ (by rw [List.length_append,List.length_singleton])
 ·intro n q hq
  simp only [zb3_,Int.lt_irrefl,decide_false,Bool.false_eq_true,if_false,hq]
noncomputable def matB (k:Nat) (m:Mat):Bool:=(zai_ k m).getD false
theorem zpu_ {k:Nat} (hk:KK≤k) {m:Mat} (hv:m.2.2.2.length≤1048576):zai_ k m=some (matB k m)∧zdb_ k m=some (matB k m)∧(matB k m=true→∃ R C,MatP m R C):=by
 obtain ⟨b,h1,h2,h3⟩:=z1bi_ hk hv
 have e:matB k m=b:=by unfold matB; rw [h1]; rfl
 rw [e]
 exact ⟨h1,h2,h3⟩
noncomputable def z79_ (k:Nat) (p:Int):Bool:=(z81_ k p).getD false
theorem zpv_ {k:Nat} (hk:KK≤k) (p:Int):z81_ k p=some (z79_ k p)∧zax_ k p=some (z79_ k p)∧(z79_ k p=true→2≤p∧p≤251):=by
 obtain ⟨b,h1,h2,h3⟩:=zz9_ hk p
 have e:z79_ k p=b:=by unfold z79_; rw [h1]; rfl
 rw [e]
 exact ⟨h1,h2,h3⟩
noncomputable def okA (k:Nat) (s:She) (a:Nat×Nat×Nat) (m:Mat):Bool:=matB k m&&(decide (m.1=s.2.1)&&(decide (m.2.1=s.2.2.1.getD a.1 0)&&decide (m.2.2.1=s.2.2.1.getD a.2.2 0)))
noncomputable def chk1 (k:Nat) (s:She) (o:Nat) (l:List (Nat×Nat×Nat)) (i:Nat):Bool:=match l[i]? with
 | some a=>(match s.2.2.2[o+i]? with | some m=>okA k s a m | none=>false)
 | none=>true
def chk (k:Nat) (s:She) (o:Nat) (l:List (Nat×Nat×Nat)):Prop:=∀ j a,l[j]?=some a→∃ m,s.2.2.2[o+j]?=some m∧okA k s a m=true
theorem z10j_ {k:Nat} {s:She} {o:Nat} {l:List (Nat×Nat×Nat)}:(List.range l.length).all (chk1 k s o l)=true↔chk k s o l:=by
 simp only [List.all_eq_true,List.mem_range]
 constructor
 ·intro z i a ha
  have:=z i (List.getElem?_eq_some_iff.1 ha).1
  unfold chk1 at this
  rw [ha] at this
  cases hm:s.2.2.2[o+i]? with
  | none=>rw [hm] at this; cases this
  | some m=>rw [hm] at this; exact ⟨m,rfl,this⟩
 ·intro z i hi
  obtain ⟨m,h1,h2⟩:=z i _ (List.getElem?_eq_getElem hi)
  unfold chk1
  rw [List.getElem?_eq_getElem hi,h1]
  exact h2
theorem z1cz_ {k:Nat} {s:She} {o:Nat} {l r:List (Nat×Nat×Nat)}:chk k s o (l++r)↔chk k s o l∧chk k s (o+l.length) r:=by
 constructor
 ·intro h
  refine ⟨fun j a hj=>h j a (by rw [List.getElem?_append_left (List.getElem?_eq_some_iff.1 hj).1]; exact hj),fun j a hj=>?_⟩
  have:=h (l.length+j) a (by rw [List.getElem?_append_right (by omega),Nat.add_sub_cancel_left]; exact hj)
  rwa [← Nat.add_assoc] at this
 ·rintro ⟨h1,h2⟩ j a hj
  by_cases c:j<l.length
  ·rw [List.getElem?_append_left c] at hj; exact h1 j a hj
  ·rw [List.getElem?_append_right (by omega)] at hj
   have:=h2 (j-l.length) a hj
   rwa [show o+l.length+(j-l.length)=o+j by omega] at this
theorem zpw_ {k:Nat} {s:She}:∀ n,(∀ j,j<n→chk k s (arrN s.1 j).length (z1w_ s.1 j))↔chk k s 0 (arrN s.1 n)
 | 0=>by
  constructor
  ·intro _ j a hj; simp [arrN] at hj
  ·intro _ j hj; omega
 | n+1=>by
  rw [z8n_,z1cz_,← zpw_ n,Nat.zero_add]
  constructor
  ·intro h; exact ⟨fun j hj=>h j (by omega),h n (by omega)⟩
  ·rintro ⟨h1,h2⟩ j hj
   by_cases e:j=n
   ·subst e; exact h2
   ·exact h1 j (by omega)
open Classical in
noncomputable def sheB (k:Nat) (s:She):Bool:=cxB s.1&&(z79_ k s.2.1&&(stB s.1 s.2.2.1&&decide (s.2.2.2.length=(arrN s.1 s.1.length).length∧chk k s 0 (arrN s.1 s.1.length))))
structure smallSh (s:She):Prop where
 cx:z2p_ s.1
 st:s.2.2.1.length≤1048576
 maps:s.2.2.2.length≤1048576
 cells:∀ m∈s.2.2.2,m.2.2.2.length≤1048576
theorem z1d0_ {c:Cx} (h:CxP c) {n j:Nat} {a:Nat×Nat×Nat} (hn:n≤c.length) (hj:(arrN c n)[j]?=some a):a.1<c.length∧a.2.2<c.length:=by
 have hm:=List.mem_of_getElem? hj
 unfold arrN at hm
 obtain ⟨i,hi,ha⟩:=List.mem_flatMap.1 hm
 rw [List.mem_range] at hi
 have hg:c[i]?=some c[i]:=List.getElem?_eq_getElem (by omega)
 unfold z1w_ at ha
 rw [hg] at ha
 obtain ⟨p,hp,rfl⟩:=List.mem_map.1 ha
 rw [List.mem_range] at hp
 refine ⟨by show i<_; omega,z10e_ h (List.mem_of_getElem? hg) ?_⟩
 show (zm_ c c[i]).getD p 0∈_
 rw [List.getD_eq_getElem?_getD,List.getElem?_eq_getElem hp]
 exact List.getElem_mem hp
open Classical in
theorem z1d1_ {k:Nat} (hk:KK≤k) {s:She} (hs:smallSh s):zgv_ k s=some (sheB k s):=by
 have hK:=zg_
 unfold zgv_ sheB
 obtain ⟨p1,p2,p3⟩:=zpv_ hk s.2.1
 rw [z1cn_ hk hs.cx,p1,z1cv_ hk hs.cx hs.st]
 cases hcx:cxB s.1 with
 | false=>simp
 | true =>
 cases z79_ k s.2.1 with
 | false=>simp
 | true =>
 cases hst:stB s.1 s.2.2.1 with
 | false=>simp
 | true =>
  have h:=z78_.1 hcx
  have hS:=zps_ hst
  have hcl:=h.len
  have hal:=z5o_ h s.1.length (Nat.le_refl _)
  have hcount:zgt_ k s.1=some ((arrN s.1 s.1.length).length:Int):=by
   unfold zgt_
   have:=zpt_ hk h (j:=s.1.length) (i:=0) (Nat.le_refl _) (by omega)
   rw [Nat.add_zero] at this
   rw [show ((0:Nat):Int)=0 from rfl] at this
   rw [this]; rfl
  simp only [Option.bind_some,Bool.not_true,Bool.false_eq_true,if_false,hcount,Bool.true_and]
  by_cases hN:s.2.2.2.length=(arrN s.1 s.1.length).length
  ·rw [decide_eq_true (show (s.2.2.2.length:Int)=((arrN s.1 s.1.length).length:Int) by omega),if_neg (by simp)]
   have:=z6e_ (L:=fun n i=>z6g_ k n s i (some true)) (b:=s.1.length) (p:=fun j=>decide (chk k s (arrN s.1 j).length (z1w_ s.1 j))) (r:=some false) (e:=some true) ?_ ?_ (n:=k) (by omega)
   ·rw [this]
    have e:((List.range s.1.length).all (fun j=>decide (chk k s (arrN s.1 j).length (z1w_ s.1 j)))=true)↔chk k s 0 (arrN s.1 s.1.length):=by
     rw [← zpw_]
     simp only [List.all_eq_true,List.mem_range,decide_eq_true_eq]
    by_cases q:chk k s 0 (arrN s.1 s.1.length)
    ·rw [if_pos (e.2 q),decide_eq_true ⟨hN,q⟩]
    ·rw [if_neg (fun z=>q (e.1 z)),decide_eq_false (fun z=>q z.2)]
   ·intro n j hj
    have hlt:(j:Int)<(s.1.length:Int):=by omega
    have hw:=zf_ (i:=j) (by omega)
    have hg:s.1[j]?=some s.1[j]:=List.getElem?_eq_getElem hj
    have hm:=List.mem_of_getElem? hg
    have h4:=(h.simp _ hm).len4
    have hbl:=zkk_ hg
    have hnx:(arrN s.1 (j+1)).length=(arrN s.1 j).length+(z1w_ s.1 j).length:=by rw [z8n_,List.length_append]
    have hmono:=z1cx_ s.1 (show j+1≤s.1.length by omega)
    have haj:=z5o_ h j (by omega)
    have hfl:=zbp_ s.1 s.1[j]
    simp only [z6g_,hlt,decide_true,if_true]
    have inner:=z6e_ (L:=fun m i=>zak_ k m s (j:Int) i (fun s_5 k_6=>z6g_ k n s_5 (z0_ (k_6+1)) (some true))) (b:=(z1w_ s.1 j).length) (p:=chk1 k s (arrN s.1 j).length (z1w_ s.1 j)) (r:=some false) (e:=z6g_ k n s ((j+1:Nat):Int) (some true)) ?_ ?_ (n:=k) (by rw [hbl]; split <;> omega)
    ·refine Eq.trans inner ?_
     have e:=z10j_ (k:=k) (s:=s) (o:=(arrN s.1 j).length) (l:=z1w_ s.1 j)
     by_cases q:chk k s (arrN s.1 j).length (z1w_ s.1 j)
     ·rw [if_pos (e.2 q),if_pos (decide_eq_true q)]
     ·rw [if_neg (fun z=>q (e.1 z)),if_neg (by simpa using q)]
    ·intro m i hi
     have h1:1<(s.1[j]).length:=by
      apply Classical.byContradiction
      intro hn
      rw [hbl,if_neg hn] at hi; omega
     rw [if_pos h1] at hbl hfl
     have hil:i<(s.1[j]).length:=by omega
     have hil':(i:Int)<((s.1[j]).length:Int):=by omega
     have h1':(1:Int)<((s.1[j]).length:Int):=by omega
     have hw2:=zf_ (i:=i) (by omega)
     have hml:(arrN s.1 j).length+i<s.2.2.2.length:=by omega
     have hgm:s.2.2.2[(arrN s.1 j).length+i]?=some s.2.2.2[(arrN s.1 j).length+i]:=List.getElem?_eq_getElem hml
     have hcells:=hs.cells _ (List.mem_of_getElem? hgm)
     have hfi:i<(zm_ s.1 s.1[j]).length:=by omega
     have hga:=z10i_ hg hfi
     have hgd:(zm_ s.1 s.1[j])[i]?=some ((zm_ s.1 s.1[j]).getD i 0):=by rw [List.getD_eq_getElem?_getD,List.getElem?_eq_getElem hfi]; rfl
     have hF:((zm_ s.1 s.1[j]).map fun i:Nat=>(i:Int))[i]?=some (((zm_ s.1 s.1[j]).getD i 0:Nat):Int):=by rw [List.getElem?_map,hgd]; rfl
     have hflt:(zm_ s.1 s.1[j]).getD i 0<s.1.length:=z10e_ h hm (List.mem_of_getElem? hgd)
     obtain ⟨s1,_⟩:=z4s_ hS hj
     obtain ⟨s2,_⟩:=z4s_ hS hflt
     simp only [zak_,zn5_,Int.natCast_nonneg,if_true,Int.toNat_natCast,hg,Option.bind_some,hil',h1',decide_true,zpt_ hk h (show j≤s.1.length by omega) (show i≤4 by omega),hgm,z10g_ hk h hg,List.length_map,hfi,and_self,hF,(zpu_ hk hcells).1,s1,s2,hw2]
     have e:chk1 k s (arrN s.1 j).length (z1w_ s.1 j) i=okA k s (j,i,(zm_ s.1 s.1[j]).getD i 0) s.2.2.2[(arrN s.1 j).length+i]:=by unfold chk1; rw [hga,hgm]
     rw [e]
     unfold okA
     generalize s.2.2.2[(arrN s.1 j).length+i]=mm
     generalize hv:s.2.2.1.getD ((zm_ s.1 s.1[j]).getD i 0) 0=v
     generalize hu:s.2.2.1.getD j 0=u
     clear hv hu
     cases matB k mm
     ·simp
     ·by_cases q1:mm.1=s.2.1
      ·by_cases q2:mm.2.1=u
       ·by_cases q3:mm.2.2.1=v <;> simp [q1,q2,q3]
       ·simp [q1,q2]
      ·simp [q1]
    ·intro m
     have hstop:¬ (((z1w_ s.1 j).length:Int)<((s.1[j]).length:Int)∧(1:Int)<((s.1[j]).length:Int)):=by
      rw [hbl]; split <;> omega
     simp only [zak_,Int.natCast_nonneg,if_true,Int.toNat_natCast,hg,Option.bind_some,hw]
     by_cases q1:((z1w_ s.1 j).length:Int)<((s.1[j]).length:Int)
     ·have q2:¬ (1:Int)<((s.1[j]).length:Int):=fun z=>hstop ⟨q1,z⟩
      rw [decide_eq_true q1,if_pos rfl,decide_eq_false q2,if_neg (by simp)]
     ·rw [decide_eq_false q1,if_neg (by simp)]
   ·intro n
    simp only [z6g_,Int.lt_irrefl,decide_false,Bool.false_eq_true,if_false]
  ·rw [decide_eq_false (show ¬ (s.2.2.2.length:Int)=((arrN s.1 s.1.length).length:Int) by omega),if_pos (by simp),decide_eq_false (fun z=>hN z.1)]
open Classical in
theorem z1d2_ {k:Nat} (hk:KK≤k) {s:She} (hs:smallSh s):zj4_ k s=some (sheB k s):=by
 have hK:=zg_
 unfold zj4_ sheB
 obtain ⟨p1,p2,p3⟩:=zpv_ hk s.2.1
 rw [z1cq_ hk hs.cx,p2,z1cw_ hk hs.cx hs.st]
 cases hcx:cxB s.1 with
 | false=>simp
 | true =>
 cases z79_ k s.2.1 with
 | false=>simp
 | true =>
 cases hst:stB s.1 s.2.2.1 with
 | false=>simp
 | true =>
  have h:=z78_.1 hcx
  have hS:=zps_ hst
  have hcl:=h.len
  have hal:=z5o_ h s.1.length (Nat.le_refl _)
  simp only [Option.bind_some,Bool.not_true,Bool.false_eq_true,if_false,z1cy_ hk h,Bool.true_and,List.length_map]
  have:=z6e_ (L:=fun n i=>zb5_ k n ((arrN s.1 s.1.length).length:Int) i ((arrN s.1 s.1.length).map toI3) s (fun q_11 v_12=>some (decide ((List.length q_11:Int)=(List.length v_12.2.2.2:Int))))) (b:=(arrN s.1 s.1.length).length) (p:=chk1 k s 0 (arrN s.1 s.1.length)) (r:=some false) (e:=some (decide ((arrN s.1 s.1.length).length=s.2.2.2.length))) ?_ ?_ (n:=k) (by omega)
  ·rw [this]
   have e:=z10j_ (k:=k) (s:=s) (o:=0) (l:=arrN s.1 s.1.length)
   by_cases q:chk k s 0 (arrN s.1 s.1.length)
   ·rw [if_pos (e.2 q)]
    congr 1
    exact decide_eq_decide.2 ⟨fun z=>⟨z.symm,q⟩,fun z=>z.1.symm⟩
   ·rw [if_neg (fun z=>q (e.1 z)),decide_eq_false (fun z=>q z.2)]
  ·intro n i hi
   have hlt:(i:Int)<((arrN s.1 s.1.length).length:Int):=by omega
   have hw:=zf_ (i:=i) (by omega)
   have hg:(arrN s.1 s.1.length)[i]?=some (arrN s.1 s.1.length)[i]:=List.getElem?_eq_getElem hi
   have hF:((arrN s.1 s.1.length).map toI3)[i]?=some (toI3 (arrN s.1 s.1.length)[i]):=by rw [List.getElem?_map,hg]; rfl
   obtain ⟨a1,a2⟩:=z1d0_ h (Nat.le_refl _) hg
   obtain ⟨s1,_⟩:=z4s_ hS a1
   obtain ⟨s2,_⟩:=z4s_ hS a2
   have hch:chk1 k s 0 (arrN s.1 s.1.length) i=(match s.2.2.2[i]? with | some m=>okA k s (arrN s.1 s.1.length)[i] m | none=>false):=by unfold chk1; rw [hg,Nat.zero_add]
   rw [hch]
   generalize (arrN s.1 s.1.length)[i]=a at hF s1 s2
   simp only [zb5_,List.length_map,hlt,hi,decide_true,if_true,Int.natCast_nonneg,Int.toNat_natCast,and_self,hF,Option.bind_some,hw,toI3]
   by_cases hml:i<s.2.2.2.length
   ·have hgm:s.2.2.2[i]?=some s.2.2.2[i]:=List.getElem?_eq_getElem hml
    have hcells:=hs.cells _ (List.mem_of_getElem? hgm)
    rw [decide_eq_false (by omega),if_neg (by simp),hgm,s1,s2]
    simp only [Option.bind_some,zos_,(zpu_ hk hcells).2.1]
    show _=if okA k s a s.2.2.2[i]=true then _ else _
    unfold okA
    generalize s.2.2.2[i]=mm
    generalize s.2.2.1.getD a.1 0=u
    generalize s.2.2.1.getD a.2.2 0=v
    cases matB k mm
    ·simp
    ·by_cases q1:mm.1=s.2.1
     ·by_cases q2:mm.2.1=u
      ·by_cases q3:mm.2.2.1=v <;> simp [q1,q2,q3]
      ·simp [q1,q2]
     ·simp [q1]
   ·rw [decide_eq_true (by omega),if_pos rfl,List.getElem?_eq_none (by omega)]
    rfl
  ·intro n
   simp only [zb5_,Int.lt_irrefl,decide_false,Bool.false_eq_true,if_false,List.length_map]
   exact congrArg some (decide_eq_decide.2 (by omega))
theorem z4t_ {k:Nat} (hk:KK≤k) {s:She} (h:sheB k s=true):CxP s.1∧(2≤s.2.1∧s.2.1≤251)∧StP s.1 s.2.2.1:=by
 unfold sheB at h
 simp only [Bool.and_eq_true] at h
 exact ⟨z78_.1 h.1,(zpv_ hk s.2.1).2.2 h.2.1,zps_ h.2.2.1⟩
def stN (s:She) (x:Nat):Nat:=(s.2.2.1.getD x 0).toNat
def mpS (s:She) (j i:Nat):Mat:=s.2.2.2.getD ((arrN s.1 j).length+i) (0,0,0,[])
theorem z1d3_ {k:Nat} {s:She} (h:sheB k s=true):s.2.2.2.length=(arrN s.1 s.1.length).length∧chk k s 0 (arrN s.1 s.1.length):=by
 unfold sheB at h
 simp only [Bool.and_eq_true,decide_eq_true_eq] at h
 exact h.2.2.2
theorem zdn_ {k:Nat} (hk:KK≤k) {s:She} (hs:smallSh s) (h:sheB k s=true) {j:Nat} {t:List Int} (hj:s.1[j]?=some t) {i:Nat} (hi:i<(zm_ s.1 t).length) :
  s.2.2.2[(arrN s.1 j).length+i]?=some (mpS s j i)∧MatP (mpS s j i) (stN s j) (stN s ((zm_ s.1 t).getD i 0)):=by
 obtain ⟨hC,hp,hS⟩:=z4t_ hk h
 obtain ⟨_,hch⟩:=z1d3_ h
 have hjl:=(List.getElem?_eq_some_iff.1 hj).1
 have hb:=zpw_ (k:=k) (s:=s) s.1.length |>.2 hch j hjl
 obtain ⟨m,h1,h2⟩:=hb i _ (z10i_ hj hi)
 have e:mpS s j i=m:=by unfold mpS; rw [List.getD_eq_getElem?_getD,h1]; rfl
 rw [e]
 refine ⟨h1,?_⟩
 unfold okA at h2
 simp only [Bool.and_eq_true,decide_eq_true_eq] at h2
 obtain ⟨a1,a2,a3,a4⟩:=h2
 obtain ⟨R,C,hm⟩:=(zpu_ hk (hs.cells m (List.mem_of_getElem? h1))).2.2 a1
 have e1:R=stN s j:=by unfold stN; have:=hm.rows; omega
 have e2:C=stN s ((zm_ s.1 t).getD i 0):=by unfold stN; have:=hm.cols; omega
 rw [← e1,← e2]
 exact hm
theorem z1d4_ {k:Nat} (hk:KK≤k) {s:She} (h:CxP s.1) {j:Nat} (hj:j≤s.1.length):zj6_ k s (j:Int)=some ((arrN s.1 j).length:Int):=by
 have hK:=zg_
 have hcl:=h.len
 unfold zj6_
 rw [if_pos ⟨by omega,by omega,by omega⟩,Int.toNat_natCast]
 have htl:(s.1.take j).length=j:=by rw [List.length_take]; omega
 refine z1h_ (A:=Int) (L:=fun n i z=>z6y_ k n z (s.1.take j) ((s.1.take j).length:Int) i (fun n_3=>some n_3)) (I:=fun pre z=>z=((arrN s.1 pre.length).length:Int)) (G:=fun _ _=>some ((arrN s.1 j).length:Int)) (s.1.take j) ?_ ?_ k (by omega) 0 (by simp [arrN])
 ·intro n pre x post z hx hz ih hg hlt
  have hpl:pre.length<j:=by omega
  have hw:=zf_ (i:=pre.length) (by omega)
  have hgc:s.1[pre.length]?=some x:=by rw [List.getElem?_take_of_lt hpl] at hg; exact hg
  have h4:=(h.simp _ (List.mem_of_getElem? hgc)).len4
  have hal:=z5o_ h pre.length (by omega)
  have hnx:(arrN s.1 (pre.length+1)).length=(arrN s.1 pre.length).length+(if 1<x.length then x.length else 0):=by rw [z8n_,List.length_append,zkk_ hgc]
  simp only [z6y_,hlt,decide_true,if_true,Int.natCast_nonneg,Int.toNat_natCast,hg,Option.bind_some,hw]
  by_cases c1:1<x.length
  ·have hwz:z0_ (z+(x.length:Int))=z+(x.length:Int):=w_id (by omega) (by omega)
   rw [decide_eq_true (by omega),if_pos rfl]
   show z6y_ k n (z0_ (z+(x.length:Int))) _ _ _ _=_
   rw [hwz]
   refine ih _ ?_
   rw [if_pos c1] at hnx
   rw [List.length_append,List.length_singleton,hnx,hz]; rfl
  ·rw [decide_eq_false (by omega),if_neg (by simp)]
   refine ih _ ?_
   rw [if_neg c1] at hnx
   rw [List.length_append,List.length_singleton,hnx,hz]; rfl
 ·intro n z hz
  rw [htl] at hz
  simp only [z6y_,Int.lt_irrefl,decide_false,Bool.false_eq_true,if_false,hz]
theorem z1d5_ {k:Nat} (hk:KK≤k) {s:She} (hs:smallSh s) (h:sheB k s=true) {j:Nat} {t:List Int} (hj:s.1[j]?=some t) {i:Nat} (hi:i<(zm_ s.1 t).length):zj8_ k s (j:Int) (i:Int)=some (mpS s j i):=by
 obtain ⟨hC,_,_⟩:=z4t_ hk h
 have hjl:=(List.getElem?_eq_some_iff.1 hj).1
 have hcl:=hC.len
 have hal:=z5o_ hC j (by omega)
 have h4:=(hC.simp t (List.mem_of_getElem? hj)).len4
 have hfl:=zbp_ s.1 t
 have hi4:i≤4:=by rw [hfl] at hi; split at hi <;> omega
 have hw:z0_ (((arrN s.1 j).length:Int)+(i:Int))=(((arrN s.1 j).length+i:Nat):Int):=by rw [w_id (by omega) (by omega)]; omega
 unfold zj8_
 rw [z1d4_ hk hC (by omega)]
 simp only [Option.bind_some,hw,Int.natCast_nonneg,if_true,Int.toNat_natCast,(zdn_ hk hs h hj hi).1]
def setF (f:Nat→Nat→Bool) (a b:Nat) (v:Bool):Nat→Nat→Bool:=fun x y=>if x=a∧y=b then v else f x y
def idF (a b:Nat):Bool:=decide (a=b)
def addP (f:Nat→Nat→Bool) (p:List Int):Nat→Nat→Bool:=setF f (p.getD 0 0).toNat (p.getD 1 0).toNat true
def wkF (f:Nat→Nat→Bool) (k:Nat):Nat→Nat→Bool:=fun a b=>f a b||(f a k&&f k b)
def cloF (n:Nat) (ps:List (List Int)):Nat→Nat→Bool:=(List.range n).foldl wkF (ps.foldl addP idF)
def z1d6_ (n:Nat) (p:List Int):Prop:=∃ a b:Nat,a<n∧b<n∧p=[(a:Int),(b:Int)]
structure Ord (n:Nat) (ps:List (List Int)) (T:Nat→Nat→Bool):Prop where
 refl:∀ a,T a a=true
 pair:∀ a b:Nat,[(a:Int),(b:Int)]∈ps→T a b=true
 trans:∀ a m b,m<n→T a m=true→T m b=true→T a b=true
 last:∀ a b,T a b=true→a=b∨∃ c:Nat,[(c:Int),(b:Int)]∈ps∧T a c=true
abbrev Pos:=Int×List (List Int)
def midB (T:Nat→Nat→Bool) (a b x:Nat):Bool:=(decide (x≠a)&&decide (x≠b))&&(T a x&&T x b)
def btwB (n:Nat) (T:Nat→Nat→Bool) (a b:Nat):Bool:=(List.range n).any (midB T a b)
def covR (n:Nat) (T:Nat→Nat→Bool) (a c:Nat):List (List Int):=((List.range c).filter fun b=>decide (a≠b)&&(T a b&&!btwB n T a b)).map fun b:Nat=>[(a:Int),(b:Int)]
def cov (n:Nat) (T:Nat→Nat→Bool) (m:Nat):List (List Int):=(List.range m).flatMap fun a=>covR n T a n
structure PosP (p:Pos) (n:Nat):Prop where
 size:p.1=(n:Int)
 n12:n≤12
 len:p.2.length≤30
 pairs:∀ q∈p.2,z1d6_ n q
 anti:∀ a b,a<n→b<n→cloF n p.2 a b=true→cloF n p.2 b a=true→a=b
 covs:p.2=cov n (cloF n p.2) n
structure goodQ (n:Nat) (T:Nat→Nat→Bool) (out:List Nat):Prop where
 nodup:out.Nodup
 lt:∀ i∈out,i<n
 down:∀ pre a post,out=pre++a::post→a∉pre∧∀ b,b<n→T b a=true→b≠a→b∈pre
def wid (lines:List (List UInt8)):Nat:=(lines.headD []).length
def okC (c:UInt8):Bool:=decide (32≤c.toNat∧c.toNat≤126)
def zbq_ (w:Nat) (l:List UInt8):Bool:=decide (l.length=w)&&(decide (l.length≤80)&&l.all okC)
def zbr_ (lines:List (List UInt8)):Bool:=lines.all (zbq_ (wid lines))&&decide (lines.length≤60)
theorem z1d7_ {lines:List (List UInt8)} {i:Nat} {x:List UInt8} (h:lines[i]?=some x):∃ y,lines[0]?=some y∧y.length=wid lines:=by
 cases lines with
 | nil=>simp at h
 | cons y l=>exact ⟨y,rfl,rfl⟩
theorem z1d8_ {k:Nat} (hk:KK≤k) {a:List (List UInt8)} (ha:a.length≤1000000000000) (hx:∀ x∈a,x.length≤1000000000000):zhf_ k a=some (zbr_ a):=by
 unfold zhf_
 have hK:=zg_
 have:=zcr_ (L:=fun n i=>z6p_ k n a i fun lines_6=>some (decide ((List.length lines_6:Int)≤60))) (p:=zbq_ (wid a)) (r:=some false) (e:=some (decide (a.length≤60))) a ?_ ?_ (n:=k) (by omega)
 ·refine Eq.trans this ?_
  unfold zbr_
  cases a.all (zbq_ (wid a)) <;> rfl
 ·intro n i x hi hlt
  have hxl:=hx x (List.mem_of_getElem? hi)
  have hw:=zf_ (i:=i) (by omega)
  obtain ⟨y,h0,hy⟩:=z1d7_ hi
  have inner:=zcr_ (L:=fun m j=>zaq_ k m a (i:Int) j fun lines_4 i_5=>z6p_ k n lines_4 (z0_ (i_5+1)) fun lines_6=>some (decide ((List.length lines_6:Int)≤60)))
   (p:=okC) (r:=some false) (e:=z6p_ k n a ((i+1:Nat):Int) fun lines_6=>some (decide ((List.length lines_6:Int)≤60))) x ?_ ?_ (n:=k) (by omega)
  ·simp only [z6p_,hlt,decide_true,if_true,Int.natCast_nonneg,Int.toNat_natCast,hi,h0,Option.bind_some]
   unfold zbq_
   by_cases h1:x.length=wid a
   ·have h1':(x.length:Int)=(y.length:Int):=by omega
    by_cases h2:x.length≤80
    ·have h2':¬ (80<(x.length:Int)):=by omega
     have e1:(decide (x.length=wid a)&&(decide (x.length≤80)&&x.all okC))=x.all okC:=by simp [h1,h2]; omega
     rw [decide_eq_true h1',if_neg (by simp),decide_eq_false h2',if_neg (by simp),e1]
     exact inner
    ·have h2':(80<(x.length:Int)):=by omega
     rw [decide_eq_true h1',if_neg (by simp),decide_eq_true h2',if_pos rfl,decide_eq_false h2,if_neg (by simp)]
   ·have h1':¬ (x.length:Int)=(y.length:Int):=by omega
    rw [decide_eq_false h1',if_pos (by simp),decide_eq_false h1,if_neg (by simp)]
  ·intro m j c hj hjlt
   have hw2:=zf_ (i:=j) (by omega)
   simp only [zaq_,hjlt,decide_true,if_true,Int.natCast_nonneg,Int.toNat_natCast,hi,hj,Option.bind_some,hw2]
   unfold okC z_u8
   by_cases h3:c.toNat<32
   ·rw [decide_eq_true (by omega),if_pos rfl,if_neg (by simp; omega)]
   ·rw [decide_eq_false (by omega),if_neg (by simp)]
    by_cases h4:126<c.toNat
    ·rw [decide_eq_true (by omega),if_pos rfl,if_neg (by simp; omega)]
    ·rw [decide_eq_false (by omega),if_neg (by simp),if_pos (by simp; omega)]
  ·intro m
   simp [zaq_,hi,hw]
 ·intro n
  simp only [z6p_,Int.lt_irrefl,decide_false,Bool.false_eq_true,if_false]
  exact congrArg some (decide_eq_decide.2 (by omega))
theorem z10k_ (b:UInt8):∀ n,Lib.repeatL [b] n=List.replicate n b
 | 0=>rfl
 | n+1=>by simp [Lib.repeatL,z10k_ b n,List.replicate_succ]
theorem z1d9_ (b:UInt8) {n:Nat} (hn:n≤1000000):strings_Repeat [b] (n:Int)=some (List.replicate n b):=by
 unfold strings_Repeat
 rw [if_pos ⟨by omega,by omega,by simp; omega⟩,Int.toNat_natCast,z10k_]
abbrev Pic:=List (List UInt8)
def z5p_ (q:Pic):Pic×Int:=if zbr_ q=true then (q,0) else ([],5)
theorem z1da_ {k:Nat} (hk:KK≤k) (b:UInt8) {n:Nat} (hn:n≤1000000):zhb_ k [b] (n:Int)=some (List.replicate n b):=by
 have hK:=zg_
 unfold zhb_
 have:=z1h_ (L:=fun m i q=>zan_ k m [b] (n:Int) q i (fun out_1=>some out_1)) (I:=fun pre q=>q=pre) (G:=fun post q=>some (q++post)) (List.replicate n b) ?_ ?_ k (by simp; omega) [] rfl
 ·simpa using this
 ·intro m pre x post q hx hq ih hg hlt
  subst hq
  rw [List.length_replicate] at hlt
  have hw:=zf_ (i:=q.length) (by omega)
  have hb:x=b:=List.eq_of_mem_replicate (List.mem_of_getElem? hg)
  subst hb
  have ih:=ih _ rfl
  simp only [zan_,hlt,decide_true,if_true,hw]
  rw [if_pos (by simp only [List.length_singleton]; omega),ih]
  simp
 ·intro m q hq
  simp [zan_]
theorem z1db_ {q:Pic} {W:Nat} (h:∀ l∈q,l.length=W∧l.all okC=true):zbr_ q=(decide (q.length≤60)&&(q.isEmpty||decide (W≤80))):=by
 unfold zbr_
 cases q with
 | nil=>simp
 | cons z zs =>
  have hw:wid (z::zs)=W:=(h z (by simp)).1
  rw [hw,List.isEmpty_cons,Bool.false_or,Bool.and_comm]
  congr 1
  by_cases h80:W≤80
  ·rw [decide_eq_true h80,List.all_eq_true]
   intro l hl
   obtain ⟨h1,h2⟩:=h l hl
   unfold zbq_
   simp [h1,h2,h80]
  ·rw [decide_eq_false h80,List.all_eq_false]
   refine ⟨z,by simp,?_⟩
   unfold zbq_
   simp [(h z (by simp)).1,h80]
theorem z10l_ {d:Nat} (h:d<10):okC (UInt8.ofNat (48+d))=true:=by
 have:(UInt8.ofNat (48+d)).toNat=48+d:=by simp [UInt8.toNat_ofNat']; omega
 unfold okC
 rw [this]
 exact decide_eq_true (by omega)
theorem z1dc_ (u:Nat):(Lib.decDigits u).all okC=true:=by
 induction u using Nat.strongRecOn with
 | _ u ih =>
  rw [Lib.decDigits]
  by_cases h:u<10
  ·rw [dif_pos h]
   simp only [List.all_cons,List.all_nil,Bool.and_true]
   exact z10l_ h
  ·rw [dif_neg h,List.all_append,ih (u / 10) (by omega)]
   simp only [List.all_cons,List.all_nil,Bool.and_true,Bool.true_and]
   exact z10l_ (by omega)
theorem z10m_ {d:Nat} (h:d<10):z_u8 (UInt8.ofNat (48+d))=((48+d:Nat):Int):=by
 have:(UInt8.ofNat (48+d)).toNat=48+d:=by simp [UInt8.toNat_ofNat']; omega
 show ((UInt8.ofNat (48+d)).toNat:Int)=_
 rw [this]
theorem zpx_ {d:Nat} (h:d<10):w_u8 (z0_ (48+(d:Int)))=((48+d:Nat):Int):=by
 rw [w_id (by omega) (by omega)]
 unfold w_u8 IntKind.wrap
 simp [IntKind.bits,IntKind.signed]; omega
def revD (u:Nat):List Int:=if u=0 then [] else ((Lib.decDigits u).map z_u8).reverse
theorem zkl_ {u:Nat} (h:u≠0):revD u=((48+u % 10:Nat):Int)::revD (u / 10):=by
 unfold revD
 rw [if_neg h]
 by_cases h1:u<10
 ·rw [Lib.decDigits,dif_pos h1,if_pos (by omega)]
  have:=z10m_ h1
  rw [Nat.mod_eq_of_lt h1,List.map_cons,List.map_nil,this]
  rfl
 ·rw [Lib.decDigits,dif_neg h1,if_neg (by omega)]
  have:=z10m_ (d:=u % 10) (by omega)
  rw [List.map_append,List.map_cons,List.map_nil,this,List.reverse_append]
  rfl
theorem zpy_:∀ (j u:Nat),u<10 ^ j→(revD u).length≤j
 | 0,u,h=>by
  have:u=0:=by simpa using h
  subst this; simp [revD]
 | j+1,u,h=>by
  by_cases h0:u=0
  ·subst h0; simp [revD]
  ·rw [zkl_ h0,List.length_cons]
   have:=zpy_ j (u / 10) (by rw [Nat.pow_succ] at h; omega)
   omega
theorem zpz_ {k:Nat} {n0:Int} {E:Int→List Int→Option (List UInt8)}:∀ (j u n:Nat) (m:Int) (q:List Int),(m=(u:Int)∨m = -(u:Int))→u<10 ^ j→u≤9223372036854775808 → -9223372036854775808≤m→m≤9223372036854775807→q.length+j≤100→j<n→z5g_ k n n0 m q E=E n0 (q++revD u)
 | j,u,0,m,q,_,_,_,_,_,_,h=>by omega
 | 0,u,n+1,m,q,hm,hu,_,_,_,_,_=>by
  have h0:u=0:=by simpa using hu
  subst h0
  have hm0:m=0:=by omega
  subst hm0
  simp [z5g_,revD]
 | j+1,u,n+1,m,q,hm,hu,hub,hm1,hm2,hq,hn=>by
  have hL:=z1l_
  by_cases h0:u=0
  ·subst h0
   have hm0:m=0:=by omega
   subst hm0
   simp [z5g_,revD]
  ·have hm0:¬ m=0:=by omega
   have hlim:(q.length+1)*1≤LIM:=by omega
   have hd:u % 10<10:=by omega
   have hj:u / 10<10 ^ j:=by rw [Nat.pow_succ] at hu; omega
   rcases hm with hm | hm
   ·subst hm
    have t1:Int.tmod (u:Int) 10=((u % 10:Nat):Int):=by rw [Int.tmod_eq_emod_of_nonneg (by omega)]; omega
    have t2:Int.tdiv (u:Int) 10=((u / 10:Nat):Int):=by rw [Int.tdiv_eq_ediv_of_nonneg (by omega)]; omega
    have w2:z0_ ((u / 10:Nat):Int)=((u / 10:Nat):Int):=w_id (by omega) (by omega)
    have hlt:¬ (((u % 10:Nat):Int)<0):=by omega
    have ih:=zpz_ (k:=k) (n0:=n0) (E:=E) j (u / 10) n ((u / 10:Nat):Int) (q++[((48+u % 10:Nat):Int)]) (.inl rfl) hj (by omega) (by omega) (by omega) (by simp; omega) (by omega)
    unfold z5g_
    rw [decide_eq_false hm0,if_pos (by rfl),t1,t2,decide_eq_false hlt,if_neg (by simp),zpx_ hd,w2,List.length_singleton,if_pos hlim,ih,List.append_assoc,zkl_ h0]
    rfl
   ·subst hm
    have t1:Int.tmod (-(u:Int)) 10 = -((u % 10:Nat):Int):=by rw [Int.neg_tmod,Int.tmod_eq_emod_of_nonneg (by omega)]; omega
    have t2:Int.tdiv (-(u:Int)) 10 = -((u / 10:Nat):Int):=by rw [Int.neg_tdiv,Int.tdiv_eq_ediv_of_nonneg (by omega)]; omega
    have w2:z0_ (-((u / 10:Nat):Int)) = -((u / 10:Nat):Int):=w_id (by omega) (by omega)
    have ih:=zpz_ (k:=k) (n0:=n0) (E:=E) j (u / 10) n (-((u / 10:Nat):Int)) (q++[((48+u % 10:Nat):Int)]) (.inr rfl) hj (by omega) (by omega) (by omega) (by simp; omega) (by omega)
    unfold z5g_
    rw [decide_eq_false hm0,if_pos (by rfl),t1,t2,w2]
    by_cases hz:u % 10=0
    ·have hlt:¬ (-((u % 10:Nat):Int)<0):=by omega
     have hw:w_u8 (z0_ (48 + -((u % 10:Nat):Int)))=((48+u % 10:Nat):Int):=by
      rw [hz]
      exact zpx_ (d:=0) (by omega)
     rw [decide_eq_false hlt,if_neg (by simp),hw,List.length_singleton,if_pos hlim,ih,List.append_assoc,zkl_ h0]
     rfl
    ·have hlt : -((u % 10:Nat):Int)<0:=by omega
     have hw:w_u8 (z0_ (48+z0_ (0 - -((u % 10:Nat):Int))))=((48+u % 10:Nat):Int):=by
      rw [show (0:Int) - -((u % 10:Nat):Int)=((u % 10:Nat):Int) by omega,w_id (x:=((u % 10:Nat):Int)) (by omega) (by omega)]
      exact zpx_ hd
     rw [decide_eq_true hlt,if_pos rfl,hw,List.length_singleton,if_pos hlim,ih,List.append_assoc,zkl_ h0]
     rfl
theorem zq0_ {k:Nat} {q:List Int} (hq:q.length≤1000) {E:List Int→Option (List UInt8)}:∀ (j n:Nat) (acc:List Int),j≤q.length→acc.length+j≤1000→j<n→z86_ k n ((j:Int)-1) q acc E=E (acc++(q.take j).reverse)
 | j,0,_,_,_,h=>by omega
 | 0,n+1,acc,_,_,_=>by
  have:¬ (0≤((0:Nat):Int)-1):=by omega
  simp only [z86_,this,decide_false,Bool.false_eq_true,if_false,List.take_zero,List.reverse_nil,List.append_nil]
 | j+1,n+1,acc,hj,ha,hn=>by
  have hL:=z1l_
  have e0:((j+1:Nat):Int)-1=(j:Int):=by omega
  have hjl:j<q.length:=by omega
  have ew:z0_ ((j:Int)-1)=(j:Int)-1:=w_id (by omega) (by omega)
  have hlim:(acc.length+1)*1≤LIM:=by omega
  have ih:=zq0_ (k:=k) hq (E:=E) j n (acc++[q[j]]) (by omega) (by simp; omega) (by omega)
  rw [e0]
  simp only [z86_,Int.natCast_nonneg,decide_true,if_true,Int.toNat_natCast,hjl,and_self,List.getElem?_eq_getElem hjl,Option.bind_some,List.length_singleton,hlim,ew,ih]
  rw [List.take_succ_eq_append_getElem hjl,List.reverse_append]
  simp
theorem z10n_ (l:List UInt8):to_S (l.map z_u8)=l:=by
 unfold to_S
 rw [List.map_map]
 have:((fun x:Int=>x.toNat.toUInt8) ∘ z_u8)=id:=by
  funext b
  simp [z_u8]
 simp [this]
theorem zq1_ {k:Nat} (hk:KK≤k) {n:Int} (h1 : -9223372036854775808≤n) (h2:n≤9223372036854775807):zal_ k n=some (Lib.itoa n):=by
 have hK:=zg_
 have hL:=z1l_
 unfold zal_ Lib.itoa
 by_cases h0:n=0
 ·subst h0
  rw [decide_eq_true rfl,if_pos rfl,if_neg (by omega)]
  rw [show (0:Int).toNat=0 from rfl,Lib.decDigits,dif_pos (by omega)]
  rfl
 ·have hp:n.natAbs<10 ^ 19:=by
   have:n.natAbs≤9223372036854775808:=by omega
   exact Nat.lt_of_le_of_lt this (by decide)
  have hl:=zpy_ 19 n.natAbs hp
  have hu:n.natAbs≠0:=by omega
  have hr:revD n.natAbs=((Lib.decDigits n.natAbs).map z_u8).reverse:=by unfold revD; rw [if_neg hu]
  rw [decide_eq_false h0,if_neg (by simp),zpz_ 19 n.natAbs k n [] (by omega) hp (by omega) h1 h2 (by simp) (by omega),List.nil_append]
  by_cases hn:n<0
  ·have hl1:((revD n.natAbs).length+1)*1≤LIM:=by omega
   have hb:=zq0_ (k:=k) (q:=revD n.natAbs++[45]) (by simp; omega) (E:=fun q=>some (to_S q)) (revD n.natAbs++[45]).length k [] (Nat.le_refl _) (by simp; omega) (by simp; omega)
   have hw:z0_ (((revD n.natAbs++[45]).length:Int)-1)=((revD n.natAbs++[45]).length:Int)-1:=w_id (by omega) (by simp; omega)
   rw [decide_eq_true hn,if_pos rfl,if_pos hn,List.length_singleton,if_pos hl1,hw,hb,List.take_length,List.nil_append,hr]
   congr 1
   have e:(((Lib.decDigits n.natAbs).map z_u8).reverse++[(45:Int)]).reverse=((45:UInt8)::Lib.decDigits n.natAbs).map z_u8:=by
    rw [List.reverse_append,List.reverse_reverse]; rfl
   rw [e,z10n_]
  ·have hb:=zq0_ (k:=k) (q:=revD n.natAbs) (by omega) (E:=fun q=>some (to_S q)) (revD n.natAbs).length k [] (Nat.le_refl _) (by simp; omega) (by omega)
   have hw:z0_ (((revD n.natAbs).length:Int)-1)=((revD n.natAbs).length:Int)-1:=w_id (by omega) (by omega)
   have hna:n.natAbs=n.toNat:=by omega
   rw [decide_eq_false hn,if_neg (by simp),if_neg hn,hw,hb,List.take_length,List.nil_append,hr,List.reverse_reverse,z10n_,hna]
theorem z1dd_ {u j:Nat} (h:u<10 ^ j) (hj:1≤j):(Lib.decDigits u).length≤j:=by
 by_cases h0:u=0
 ·subst h0; rw [Lib.decDigits,dif_pos (by omega)]; exact hj
 ·have:=zpy_ j u h
  unfold revD at this
  rw [if_neg h0] at this
  simpa using this
theorem z1de_ {n:Nat} (h:n<65536):(Lib.itoa (n:Int)).length≤5:=by
 unfold Lib.itoa
 rw [if_neg (by omega),Int.toNat_natCast]
 exact z1dd_ (by omega) (by omega)
theorem zq2_ {n:Int} (h1 : -9223372036854775808≤n) (h2:n≤9223372036854775807):zb6_ n=some (Lib.itoa n):=by
 unfold zb6_ zy1_
 rw [if_pos ⟨rfl,h1,h2⟩]; rfl
def mxI (a b:Int):Int:=if a<b then b else a
def mxF {α:Type} (p:α→Bool) (g:α→Int) (m:Int) (l:List α):Int:=l.foldl (fun m b=>if p b=true then mxI m (g b) else m) m
def updH (h:Nat→Int) (a:Nat) (v:Int):Nat→Int:=fun x=>if x=a then v else h x
def hL (n:Nat) (h:Nat→Int):List Int:=(List.range n).map h
def hvF (T:Nat→Nat→Bool) (h:Nat→Int) (a:Nat) (pre:List Nat):Int:=mxF (fun b=>T b a) (fun b=>h b+1) 1 pre
def hst (T:Nat→Nat→Bool):List Nat→List Nat→Int×(Nat→Int)→Int×(Nat→Int)
 | _,[],s=>s
 | pre,a::post,s=>hst T (pre++[a]) post (mxI s.1 (hvF T s.2 a pre),updH s.2 a (hvF T s.2 a pre))
structure HInv (T:Nat→Nat→Bool) (pre:List Nat) (s:Int×(Nat→Int)):Prop where
 pos:∀ b∈pre,1≤s.2 b
 zero:∀ b,b∉pre→s.2 b=0
 ub:∀ b,s.2 b≤pre.length
 mono:∀ b c,b∈pre→c∈pre→T b c=true→b≠c→s.2 b+1≤s.2 c
 lev:∀ c∈pre,s.2 c=1∨∃ b∈pre,s.2 c=s.2 b+1
 top:∀ b∈pre,s.2 b≤s.1
 most:s.1=0∨∃ b∈pre,s.2 b=s.1
 nn:0≤s.1
theorem z1df_ (u:Nat):Lib.decDigits u≠[]:=by
 rw [Lib.decDigits]
 split
 ·simp
 ·simp
theorem z1dg_ {a:Nat} (h:a<65536):(Lib.itoa (a:Int))≠[]∧(Lib.itoa (a:Int)).length≤5∧(Lib.itoa (a:Int)).all okC=true:=by
 refine ⟨?_,z1de_ h,?_⟩
 ·unfold Lib.itoa; rw [if_neg (by omega)]; exact z1df_ _
 ·unfold Lib.itoa; rw [if_neg (by omega)]; exact z1dc_ _
def maxL (q:Pic) (w:Nat):Nat:=q.foldl (fun w l=>if w<l.length then l.length else w) w
theorem zdo_:∀ (q:Pic) (w:Nat),w≤maxL q w∧(∀ l∈q,l.length≤maxL q w)∧(∀ B,w≤B→(∀ l∈q,l.length≤B)→maxL q w≤B)
 | [],w=>⟨Nat.le_refl _,by simp,fun _ h _=>h⟩
 | x::q,w=>by
  have e:maxL (x::q) w=maxL q (if w<x.length then x.length else w):=rfl
  obtain ⟨h1,h2,h3⟩:=zdo_ q (if w<x.length then x.length else w)
  rw [e]
  have hw:w≤(if w<x.length then x.length else w)∧x.length≤(if w<x.length then x.length else w):=by split <;> omega
  refine ⟨by omega,fun l hl=>?_,fun B h4 h5=>h3 B ?_ fun l hl=>h5 l (by simp [hl])⟩
  ·rcases List.mem_cons.1 hl with rfl | hl
   ·omega
   ·exact h2 l hl
  ·have:=h5 x (by simp)
   split <;> omega
def padL (W:Nat) (l:List UInt8):List UInt8:=l++List.replicate (W-l.length) 32
def z2e_ (q:Pic):Pic:=q.map (padL (maxL q 0))
theorem z1dh_ {k:Nat} (hk:KK≤k) {q:Pic} (hq:q.length≤1000) (hl:∀ l∈q,l.length≤1000):zd3_ k q=some (z2e_ q):=by
 have hK:=zg_
 have hL':=z1l_
 obtain ⟨_,m2,m3⟩:=zdo_ q 0
 have hM:=m3 1000 (by omega) hl
 unfold zd3_
 have h0:∀ E:Pic→Int→Option Pic,z6n_ k k q 0 0 E=E q ((maxL q 0:Nat):Int):=by
  intro E
  refine z1h_ (A:=Nat) (L:=fun n i w=>z6n_ k n q (w:Int) i E) (I:=fun _ _=>True) (G:=fun post w=>E q ((maxL post w:Nat):Int)) q ?_ ?_ k (by omega) 0 trivial
  ·intro n pre x post w hx _ ih hg hlt
   have hw:=zf_ (i:=pre.length) (by omega)
   have ih':=ih (if w<x.length then x.length else w) trivial
   simp only [z6n_,hlt,decide_true,if_true,Int.natCast_nonneg,Int.toNat_natCast,hg,Option.bind_some,hw]
   by_cases c:w<x.length
   ·rw [if_pos c] at ih'
    rw [decide_eq_true (show (w:Int)<(x.length:Int) by omega),if_pos rfl,ih']
    show _=E q ((maxL post (if w<x.length then x.length else w):Nat):Int)
    rw [if_pos c]
   ·rw [if_neg c] at ih'
    rw [decide_eq_false (show ¬ (w:Int)<(x.length:Int) by omega),if_neg (by simp),ih']
    show _=E q ((maxL post (if w<x.length then x.length else w):Nat):Int)
    rw [if_neg c]
  ·intro n w _
   simp only [z6n_,Int.lt_irrefl,decide_false,Bool.false_eq_true,if_false]
   rfl
 rw [h0]
 refine z1h_ (A:=Pic) (L:=fun n i r=>zap_ k n q ((maxL q 0:Nat):Int) i r (fun q_9=>some q_9)) (I:=fun pre r=>r=pre.map (padL (maxL q 0))) (G:=fun _ _=>some (z2e_ q)) q ?_ ?_ k (by omega) [] rfl
 ·intro n pre x post r hx hr ih hg hlt
  have hw:=zf_ (i:=pre.length) (by omega)
  have hxl:=m2 x (List.mem_of_getElem? hg)
  have hz:z0_ (((maxL q 0:Nat):Int)-(x.length:Int))=((maxL q 0-x.length:Nat):Int):=by rw [w_id (by omega) (by omega)]; omega
  have b1:x.length+(List.replicate (maxL q 0-x.length) (32:UInt8)).length≤9223372036854775807:=by rw [List.length_replicate]; omega
  have hrl:r.length=pre.length:=by rw [hr,List.length_map]
  have b2:(r.length+1)*16≤LIM:=by omega
  simp only [zap_,hlt,decide_true,if_true,Int.natCast_nonneg,Int.toNat_natCast,hg,Option.bind_some,hz,z1da_ hk 32 (show maxL q 0-x.length≤1000000 by omega),b1,List.length_singleton,b2,hw]
  exact ih _ (by rw [hr,List.map_append]; rfl)
 ·intro n r hr
  subst hr
  simp only [zap_,Int.lt_irrefl,decide_false,Bool.false_eq_true,if_false]
  rfl
theorem z10o_ {q:Pic} (hc:∀ l∈q,l.all okC=true):∀ l∈z2e_ q,l.length=maxL q 0∧l.all okC=true:=by
 obtain ⟨_,m2,_⟩:=zdo_ q 0
 intro l hl
 obtain ⟨x,hx,rfl⟩:=List.mem_map.1 hl
 have:=m2 x hx
 unfold padL
 refine ⟨by rw [List.length_append,List.length_replicate]; omega,?_⟩
 rw [List.all_append,hc x hx,Bool.true_and,List.all_eq_true]
 intro y hy
 rw [List.eq_of_mem_replicate hy]
 decide
theorem z1di_ {k:Nat} (hk:KK≤k) {q:Pic} (hq:q.length≤1000) (hl:∀ l∈q,l.length≤1000) (hc:∀ l∈q,l.all okC=true):zdd_ k q=some (z5p_ (z2e_ q)):=by
 have hK:=zg_
 have hL':=z1l_
 obtain ⟨_,m2,m3⟩:=zdo_ q 0
 have hM:=m3 1000 (by omega) hl
 have hel:(z2e_ q).length=q.length:=List.length_map ..
 unfold zdd_
 have h0:∀ E:Pic→Int→Option (Pic×Int),z8j_ k k q 0 q (q.length:Int) 0 E=E q ((maxL q 0:Nat):Int):=by
  intro E
  refine z1h_ (A:=Nat) (L:=fun n i w=>z8j_ k n q (w:Int) q (q.length:Int) i E) (I:=fun _ _=>True) (G:=fun post w=>E q ((maxL post w:Nat):Int)) q ?_ ?_ k (by omega) 0 trivial
  ·intro n pre x post w hx _ ih hg hlt
   have hw:=zf_ (i:=pre.length) (by omega)
   have ih':=ih (if w<x.length then x.length else w) trivial
   have hm:(if (w:Int)<(x.length:Int) then (x.length:Int) else (w:Int))=((if w<x.length then x.length else w:Nat):Int):=by split <;> split <;> omega
   simp only [z8j_,hlt,decide_true,if_true,Int.natCast_nonneg,Int.toNat_natCast,hg,Option.bind_some,hw,hm,ih']
   rfl
  ·intro n w _
   simp only [z8j_,Int.lt_irrefl,decide_false,Bool.false_eq_true,if_false]
   rfl
 rw [h0]
 refine z1h_ (A:=Pic) (L:=fun n i r=>zbe_ k n ((maxL q 0:Nat):Int) q (q.length:Int) i r (fun width_7 q_8=>(if (decide (60<(List.length q_8:Int)))=true then some ([],5) else (if (decide (80<width_7))=true then some ([],5) else some (q_8,(0:Int)))))) (I:=fun pre r=>r=pre.map (padL (maxL q 0))) (G:=fun _ _=>some (z5p_ (z2e_ q))) q ?_ ?_ k (by omega) [] rfl
 ·intro n pre x post r hx hr ih hg hlt
  have hw:=zf_ (i:=pre.length) (by omega)
  have hxl:=m2 x (List.mem_of_getElem? hg)
  have hz:z0_ (((maxL q 0:Nat):Int)-(x.length:Int))=((maxL q 0-x.length:Nat):Int):=by rw [w_id (by omega) (by omega)]; omega
  have b1:x.length+(List.replicate (maxL q 0-x.length) (32:UInt8)).length≤9223372036854775807:=by rw [List.length_replicate]; omega
  have hrl:r.length=pre.length:=by rw [hr,List.length_map]
  have b2:(r.length+1)*16≤LIM:=by omega
  simp only [zbe_,hlt,decide_true,if_true,Int.natCast_nonneg,Int.toNat_natCast,hg,Option.bind_some,hz,z1d9_ 32 (show maxL q 0-x.length≤1000000 by omega),b1,List.length_singleton,b2,hw]
  exact ih _ (by rw [hr,List.map_append]; rfl)
 ·intro n r hr
  have hr':r=z2e_ q:=hr
  subst hr'
  simp only [zbe_,Int.lt_irrefl,decide_false,Bool.false_eq_true,if_false]
  unfold z5p_
  rw [z1db_ (z10o_ hc)]
  by_cases h60:(z2e_ q).length≤60
  ·rw [decide_eq_false (show ¬ (60<((z2e_ q).length:Int)) by omega),if_neg (by simp),decide_eq_true h60,Bool.true_and]
   cases hz:q with
   | nil=>simp [z2e_,maxL]
   | cons z zs =>
    rw [← hz]
    have hne:(z2e_ q).isEmpty=false:=by rw [hz]; rfl
    rw [hne,Bool.false_or]
    by_cases h80:maxL q 0≤80
    ·rw [decide_eq_false (show ¬ (80<((maxL q 0:Nat):Int)) by omega),decide_eq_true h80]; rfl
    ·rw [decide_eq_true (show (80<((maxL q 0:Nat):Int)) by omega),decide_eq_false h80]; rfl
  ·rw [decide_eq_true (show (60<((z2e_ q).length:Int)) by omega),if_pos rfl,decide_eq_false h60]; rfl
theorem z1dj_ {k:Nat} (hk:KK≤k) {q:Pic} (ha:q.length≤1000000000000) (hx:∀ x∈q,x.length≤1000000000000):(zd4_ k q).bind (fun y=>some (y.2.1.1,y.1.1.2.1))=some (z5p_ q):=by
 unfold zd4_ z5p_
 rw [z1d8_ hk ha hx]
 cases zbr_ q <;> simp
theorem z1dk_ {k:Nat} (hk:KK≤k) {s:She} (hs:smallSh s) (h:sheB k s=true) {j:Nat} {t:List Int} (hj:s.1[j]?=some t) {i:Nat} (hi:i<(zm_ s.1 t).length):zh0_ k (j:Int) (i:Int) s=some ((mpS s j i,()),(),(s,())):=by
 obtain ⟨hC,_,_⟩:=z4t_ hk h
 have hjl:=(List.getElem?_eq_some_iff.1 hj).1
 have h4:=(hC.simp t (List.mem_of_getElem? hj)).len4
 have hfl:=zbp_ s.1 t
 have hi4:i≤4:=by rw [hfl] at hi; split at hi <;> omega
 unfold zh0_
 rw [zpt_ hk hC (by omega) hi4]
 simp only [Option.bind_some,Int.natCast_nonneg,if_true,Int.toNat_natCast,(zdn_ hk hs h hj hi).1]
def simW (t:List Int) (n:Nat):List UInt8:=(t.take n).flatMap Lib.itoa
def facW (s:She) (j n:Nat):List UInt8:=(List.range n).flatMap fun (i:Nat)=>[32]++Lib.itoa (rkM (mpS s j i):Int)
def z1x_ (s:She) (j:Nat) (t:List Int):List UInt8:=simW t t.length++([58]++Lib.itoa (s.2.2.1.getD j 0))
def z5q_ (s:She) (j:Nat):List UInt8:=match s.1[j]? with
 | some t=>z1x_ s j t++facW s j (zm_ s.1 t).length
 | none=>[]
theorem z5r_ {a:Int} (h0:0≤a) (h:a<65536):(Lib.itoa a).length≤5∧(Lib.itoa a).all okC=true:=by
 obtain ⟨n,rfl⟩:=Int.eq_ofNat_of_zero_le h0
 have:=z1dg_ (a:=n) (by omega)
 exact ⟨this.2.1,this.2.2⟩
theorem zq3_ {t:List Int} {n:Nat} {x:Int} (h:t[n]?=some x):simW t (n+1)=simW t n++Lib.itoa x:=by
 unfold simW
 rw [List.take_add_one,h,List.flatMap_append]
 simp
theorem zbs_ {t:List Int} (ht:SimpP t):∀ n,(simW t n).length≤5*n∧(simW t n).all okC=true
 | 0=>by simp [simW]
 | n+1=>by
  have ih:=zbs_ ht n
  cases h:t[n]? with
  | none =>
   have:simW t (n+1)=simW t n:=by unfold simW; rw [List.take_add_one,h]; simp
   rw [this]; exact ⟨by omega,ih.2⟩
  | some x =>
   have hv:=ht.vert x (List.mem_of_getElem? h)
   have:=z5r_ hv.1 (by omega)
   rw [zq3_ h,List.length_append,List.all_append,ih.2,this.2]
   exact ⟨by omega,rfl⟩
theorem zq4_ (s:She) (j n:Nat):facW s j (n+1)=facW s j n++([32]++Lib.itoa (rkM (mpS s j n):Int)):=by
 unfold facW
 rw [List.range_succ,List.flatMap_append]
 simp
theorem zkm_ {k:Nat} (hk:KK≤k) {s:She} (hs:smallSh s) (h:sheB k s=true) {j:Nat} {t:List Int} (hj:s.1[j]?=some t):∀ n,n≤(zm_ s.1 t).length→(facW s j n).length≤6*n∧(facW s j n).all okC=true
 | 0,_=>by simp [facW]
 | n+1,hn=>by
  have ih:=zkm_ hk hs h hj n (by omega)
  have hr:=(zpn_ hk (zdn_ hk hs h hj (i:=n) (by omega)).2).2.2
  have:=z5r_ (a:=(rkM (mpS s j n):Int)) (by omega) (by omega)
  have hsp:okC 32=true:=by decide
  rw [zq4_,List.length_append,List.length_append,List.all_append,List.all_append,ih.2,this.2]
  refine ⟨by simp only [List.length_singleton]; omega,?_⟩
  simp [hsp]
theorem zdp_ {k:Nat} (hk:KK≤k) {s:She} (h:sheB k s=true) {j:Nat} {t:List Int} (hj:s.1[j]?=some t):(z1x_ s j t).length≤26∧(z1x_ s j t).all okC=true:=by
 obtain ⟨hC,_,hS⟩:=z4t_ hk h
 have hP:=hC.simp t (List.mem_of_getElem? hj)
 have h1:=zbs_ hP t.length
 have h4:=hP.len4
 have hst:=z4s_ hS (List.getElem?_eq_some_iff.1 hj).1
 have h2:=z5r_ hst.2.1 (by omega)
 have hsp:okC 58=true:=by decide
 unfold z1x_
 rw [List.length_append,List.length_append,List.all_append,List.all_append,h1.2,h2.2]
 refine ⟨by simp only [List.length_singleton]; omega,?_⟩
 simp [hsp]
theorem zq5_ {s:She} (hC:CxP s.1) {j:Nat} {t:List Int} (hj:s.1[j]?=some t):(zm_ s.1 t).length≤4:=by
 have h4:=(hC.simp t (List.mem_of_getElem? hj)).len4
 rw [zbp_]
 split <;> omega
theorem z1dl_ {k:Nat} (hk:KK≤k) {s:She} (hs:smallSh s) (h:sheB k s=true) (j:Nat):(z5q_ s j).length≤1000∧(z5q_ s j).all okC=true:=by
 unfold z5q_
 cases hj:s.1[j]? with
 | none=>simp
 | some t =>
  have h1:=zdp_ hk h hj
  have h2:=zkm_ hk hs h hj _ (Nat.le_refl _)
  have h3:=zq5_ (z4t_ hk h).1 hj
  simp only []
  rw [List.length_append,List.all_append,h1.2,h2.2]
  exact ⟨by omega,rfl⟩
theorem z1dm_ {k:Nat} (hk:KK≤k) {s:She} (h:sheB k s=true) {j:Nat} {t:List Int} (hj:s.1[j]?=some t) (q:Pic) (E:Int→(List UInt8)→(List (List UInt8))→She→Option (List (List UInt8)×Int)) :
  z89_ k k (j:Int) [] 0 q s E=E (j:Int) (simW t t.length) q s:=by
 have hK:=zg_
 obtain ⟨hC,_,hS⟩:=z4t_ hk h
 have hP:=hC.simp t (List.mem_of_getElem? hj)
 have h4:=hP.len4
 refine z3t_ (S:=List UInt8) (L:=fun n i l=>z89_ k n (j:Int) l i q s E) (b:=t.length) (st:=simW t) ?_ ?_ (n:=k) (by omega)
 ·intro n i hi
  have hlt:(i:Int)<(t.length:Int):=by omega
  have hw:=zf_ (i:=i) (by omega)
  have hx:t[i]?=some t[i]:=List.getElem?_eq_getElem hi
  have hv:=hP.vert _ (List.mem_of_getElem? hx)
  have hl:=(zbs_ hP i).1
  have hl2:=(z5r_ hv.1 (by omega)).1
  have b1:(simW t i).length+(Lib.itoa t[i]).length≤9223372036854775807:=by omega
  simp only [z89_,Int.natCast_nonneg,if_true,Int.toNat_natCast,hj,Option.bind_some,hlt,decide_true,hx,zq1_ hk (show -9223372036854775808≤t[i] by omega) (show t[i]≤9223372036854775807 by omega),b1,hw,zq3_ hx]
 ·intro n
  simp only [z89_,Int.natCast_nonneg,if_true,Int.toNat_natCast,hj,Option.bind_some,Int.lt_irrefl,decide_false,Bool.false_eq_true,if_false]
theorem z1dn_ {k:Nat} (hk:KK≤k) {s:She} (hs:smallSh s) (h:sheB k s=true) {j:Nat} {t:List Int} (hj:s.1[j]?=some t) (q:Pic) (F:List Int) (hF:F.length=(zm_ s.1 t).length) (E:Int→(List UInt8)→(List (List UInt8))→She→Option (List (List UInt8)×Int)) :
  z8a_ k k (j:Int) (z1x_ s j t) 0 q F s E=E (j:Int) (z1x_ s j t++facW s j (zm_ s.1 t).length) q s:=by
 have hK:=zg_
 have h1:=zdp_ hk h hj
 have h3:=zq5_ (z4t_ hk h).1 hj
 have e0:z1x_ s j t=z1x_ s j t++facW s j 0:=by simp [facW]
 conv=>lhs; rw [e0]
 refine z3t_ (S:=List UInt8) (L:=fun n i l=>z8a_ k n (j:Int) l i q F s E) (b:=(zm_ s.1 t).length) (st:=fun i=>z1x_ s j t++facW s j i) ?_ ?_ (n:=k) (by omega)
 ·intro n i hi
  have hlt:(i:Int)<(F.length:Int):=by omega
  have hw:=zf_ (i:=i) (by omega)
  have hl:=(zkm_ hk hs h hj i (by omega)).1
  have hr:=zpn_ hk (zdn_ hk hs h hj hi).2
  have hl2:=(z5r_ (a:=(rkM (mpS s j i):Int)) (by omega) (by omega)).1
  have b1:([32]:List UInt8).length+(Lib.itoa (rkM (mpS s j i):Int)).length≤9223372036854775807:=by simp only [List.length_singleton]; omega
  have b2:(z1x_ s j t++facW s j i).length+([32]++Lib.itoa (rkM (mpS s j i):Int)).length≤9223372036854775807:=by simp only [List.length_append,List.length_singleton]; omega
  simp only [z8a_,hlt,decide_true,if_true,z1dk_ hk hs h hj hi,Option.bind_some,hr.1,zq1_ hk (show -9223372036854775808≤(rkM (mpS s j i):Int) by omega) (show (rkM (mpS s j i):Int)≤9223372036854775807 by omega),b1,b2,hw,zq4_,List.append_assoc]
  rw [if_pos (by simp only [List.length_singleton]; omega)]
 ·intro n
  have:¬ ((zm_ s.1 t).length:Int)<(F.length:Int):=by omega
  simp only [z8a_,this,decide_false,Bool.false_eq_true,if_false]
theorem z1do_ {k:Nat} (hk:KK≤k) {s:She} (h:sheB k s=true) {j:Nat} {t:List Int} (hj:s.1[j]?=some t) (x5:Int) (x16:List (List Int)) (x17 x18:Int) (q:Pic) (E:Int→(List UInt8)→(List (List Int))→Int→Int→(List (List UInt8))→She→Option (List (List UInt8)×Int)) :
  z73_ k k x5 [] x16 x17 x18 t (t.length:Int) 0 q s E=E x5 (simW t t.length) x16 x17 x18 q s:=by
 have hK:=zg_
 obtain ⟨hC,_,hS⟩:=z4t_ hk h
 have hP:=hC.simp t (List.mem_of_getElem? hj)
 have h4:=hP.len4
 refine z3t_ (S:=List UInt8) (L:=fun n i l=>z73_ k n x5 l x16 x17 x18 t (t.length:Int) i q s E) (b:=t.length) (st:=simW t) ?_ ?_ (n:=k) (by omega)
 ·intro n i hi
  have hlt:(i:Int)<(t.length:Int):=by omega
  have hw:=zf_ (i:=i) (by omega)
  have hx:t[i]?=some t[i]:=List.getElem?_eq_getElem hi
  have hv:=hP.vert _ (List.mem_of_getElem? hx)
  have hl:=(zbs_ hP i).1
  have hl2:=(z5r_ hv.1 (by omega)).1
  have b1:(simW t i).length+(Lib.itoa t[i]).length≤9223372036854775807:=by omega
  simp only [z73_,Int.natCast_nonneg,if_true,Int.toNat_natCast,Option.bind_some,hlt,decide_true,hx,zq2_ (show -9223372036854775808≤t[i] by omega) (show t[i]≤9223372036854775807 by omega),b1,hw,zq3_ hx]
 ·intro n
  simp only [z73_,Int.lt_irrefl,decide_false,Bool.false_eq_true,if_false]
theorem z1dp_ {k:Nat} (hk:KK≤k) {s:She} (hs:smallSh s) (h:sheB k s=true) {j:Nat} {t:List Int} (hj:s.1[j]?=some t) (x16:List (List Int)) (x17 x18:Int) (q:Pic) (E:(List UInt8)→(List (List Int))→Int→Int→(List (List UInt8))→She→Option (List (List UInt8)×Int)) :
  z74_ k k (j:Int) (z1x_ s j t) x16 x17 x18 ((zm_ s.1 t).length:Int) 0 q s E=E (z1x_ s j t++facW s j (zm_ s.1 t).length) x16 x17 x18 q s:=by
 have hK:=zg_
 have h1:=zdp_ hk h hj
 have h3:=zq5_ (z4t_ hk h).1 hj
 have e0:z1x_ s j t=z1x_ s j t++facW s j 0:=by simp [facW]
 conv=>lhs; rw [e0]
 refine z3t_ (S:=List UInt8) (L:=fun n i l=>z74_ k n (j:Int) l x16 x17 x18 ((zm_ s.1 t).length:Int) i q s E) (b:=(zm_ s.1 t).length) (st:=fun i=>z1x_ s j t++facW s j i) ?_ ?_ (n:=k) (by omega)
 ·intro n i hi
  have hlt:(i:Int)<((zm_ s.1 t).length:Int):=by omega
  have hw:=zf_ (i:=i) (by omega)
  have hl:=(zkm_ hk hs h hj i (by omega)).1
  have hr:=zpn_ hk (zdn_ hk hs h hj hi).2
  have hl2:=(z5r_ (a:=(rkM (mpS s j i):Int)) (by omega) (by omega)).1
  have b1:([32]:List UInt8).length+(Lib.itoa (rkM (mpS s j i):Int)).length≤9223372036854775807:=by simp only [List.length_singleton]; omega
  have b2:(z1x_ s j t++facW s j i).length+([32]++Lib.itoa (rkM (mpS s j i):Int)).length≤9223372036854775807:=by simp only [List.length_append,List.length_singleton]; omega
  simp only [z74_,hlt,decide_true,if_true,z1d5_ hk hs h hj hi,Option.bind_some,hr.2.1,zq2_ (show -9223372036854775808≤(rkM (mpS s j i):Int) by omega) (show (rkM (mpS s j i):Int)≤9223372036854775807 by omega),b1,b2,hw,zq4_,List.append_assoc]
  rw [if_pos (by simp only [List.length_singleton]; omega)]
 ·intro n
  simp only [z74_,Int.lt_irrefl,decide_false,Bool.false_eq_true,if_false]
def z30_ (s:She) (n:Nat):Pic:=(List.range n).map (z5q_ s)
theorem z10p_ (s:She) (n:Nat):z30_ s (n+1)=z30_ s n++[z5q_ s n]:=by unfold z30_; rw [List.range_succ,List.map_append]; rfl
theorem zq6_ (s:She) (n:Nat):(z30_ s n).length=n:=by simp [z30_]
theorem z1dq_ {k:Nat} (hk:KK≤k) {s:She} (hs:smallSh s):∃ r:List (List UInt8)×Int,zgd_ k s=some r∧zcy_ k s=some r∧r.1.length≤100000:=by
 have hK:=zg_
 have hL:=z1l_
 unfold zgd_ zcy_
 rw [z1d1_ hk hs,z1d2_ hk hs]
 cases h:sheB k s
 ·exact ⟨([],1),by simp,by simp,by simp⟩
 ·obtain ⟨hC,_,hS⟩:=z4t_ hk h
  have hcl:=hC.len
  have hlines:∀ l∈z30_ s s.1.length,l.length≤1000∧l.all okC=true:=fun l hl=>by
   obtain ⟨j,_,rfl⟩:=List.mem_map.1 hl
   exact z1dl_ hk hs h j
  have hll:(z30_ s s.1.length).length≤1000:=by rw [zq6_]; omega
  refine ⟨z5p_ (z2e_ (z30_ s s.1.length)),?_,?_,?_⟩
  ·simp only [Option.bind_some,Bool.not_true,Bool.false_eq_true,if_false]
   have:=z3t_ (S:=Pic) (L:=fun n j q=>zar_ k n j q s (fun q_14=>(zd3_ k q_14).bind fun r_15=>(zd4_ k r_15).bind fun y_16=>some (y_16.2.1.1,y_16.1.1.2.1))) (b:=s.1.length) (st:=z30_ s) (e:=some (z5p_ (z2e_ (z30_ s s.1.length)))) ?_ ?_ (n:=k) (by omega)
   ·exact this
   ·intro n j hj
    have hlt:(j:Int)<(s.1.length:Int):=by omega
    have hw:=zf_ (i:=j) (by omega)
    have hg:s.1[j]?=some s.1[j]:=List.getElem?_eq_getElem hj
    have hst:=z4s_ hS hj
    have hh:=zdp_ hk h hg
    have hl2:=(z5r_ hst.2.1 (by omega)).1
    have h1:=(zbs_ (hC.simp _ (List.mem_of_getElem? hg)) s.1[j].length).1
    have h4:=(hC.simp _ (List.mem_of_getElem? hg)).len4
    have b1:([58]:List UInt8).length+(Lib.itoa (s.2.2.1.getD j 0)).length≤9223372036854775807:=by simp only [List.length_singleton]; omega
    have b2:(simW s.1[j] s.1[j].length).length+([58]++Lib.itoa (s.2.2.1.getD j 0)).length≤9223372036854775807:=by simp only [List.length_append,List.length_singleton]; omega
    have b3:((z30_ s j).length+1)*16≤LIM:=by rw [zq6_]; omega
    have he:simW s.1[j] s.1[j].length++([58]++Lib.itoa (s.2.2.1.getD j 0))=z1x_ s j s.1[j]:=rfl
    have hln:z1x_ s j s.1[j]++facW s j (zm_ s.1 s.1[j]).length=z5q_ s j:=by unfold z5q_; rw [hg]
    simp only [zar_,hlt,decide_true,if_true,z1dm_ hk h hg,Int.natCast_nonneg,Int.toNat_natCast,hst.1,Option.bind_some,zq1_ hk (show -9223372036854775808≤s.2.2.1.getD j 0 by omega) (show s.2.2.1.getD j 0≤9223372036854775807 by omega),b1,b2,z10g_ hk hC hg,he,z1dn_ hk hs h hg _ ((zm_ s.1 s.1[j]).map fun i:Nat=>(i:Int)) (by simp),List.length_singleton,b3,hw,hln,z10p_]
    rw [if_pos (by omega)]
   ·intro n
    simp only [zar_,Int.lt_irrefl,decide_false,Bool.false_eq_true,if_false]
    rw [z1dh_ hk hll (fun l hl=>(hlines l hl).1)]
    simp only [Option.bind_some]
    refine z1dj_ hk (by unfold z2e_; rw [List.length_map]; omega) fun x hx=>?_
    have h5:=(z10o_ (fun l hl=>(hlines l hl).2) x hx).1
    have h6:=(zdo_ (z30_ s s.1.length) 0).2.2 1000 (by omega) (fun l hl=>(hlines l hl).1)
    omega
  ·simp only [Option.bind_some,Bool.not_true,Bool.false_eq_true,if_false]
   have:=z3t_ (S:=Pic) (L:=fun n j q=>zbf_ k n s.1 (s.1.length:Int) j q s (fun q_20=>(zdd_ k q_20).bind fun r_21=>some (r_21.1,r_21.2))) (b:=s.1.length) (st:=z30_ s) (e:=some (z5p_ (z2e_ (z30_ s s.1.length)))) ?_ ?_ (n:=k) (by omega)
   ·exact this
   ·intro n j hj
    have hlt:(j:Int)<(s.1.length:Int):=by omega
    have hw:=zf_ (i:=j) (by omega)
    have hg:s.1[j]?=some s.1[j]:=List.getElem?_eq_getElem hj
    have hst:=z4s_ hS hj
    have hh:=zdp_ hk h hg
    have hl2:=(z5r_ hst.2.1 (by omega)).1
    have h1:=(zbs_ (hC.simp _ (List.mem_of_getElem? hg)) s.1[j].length).1
    have h4:=(hC.simp _ (List.mem_of_getElem? hg)).len4
    have b1:([58]:List UInt8).length+(Lib.itoa (s.2.2.1.getD j 0)).length≤9223372036854775807:=by simp only [List.length_singleton]; omega
    have b2:(simW s.1[j] s.1[j].length).length+([58]++Lib.itoa (s.2.2.1.getD j 0)).length≤9223372036854775807:=by simp only [List.length_append,List.length_singleton]; omega
    have b3:((z30_ s j).length+1)*16≤LIM:=by rw [zq6_]; omega
    have he:simW s.1[j] s.1[j].length++([58]++Lib.itoa (s.2.2.1.getD j 0))=z1x_ s j s.1[j]:=rfl
    have hln:z1x_ s j s.1[j]++facW s j (zm_ s.1 s.1[j]).length=z5q_ s j:=by unfold z5q_; rw [hg]
    simp only [zbf_,hlt,decide_true,if_true,Int.natCast_nonneg,Int.toNat_natCast,hg,Option.bind_some,z1do_ hk h hg,hst.1,zq2_ (show -9223372036854775808≤s.2.2.1.getD j 0 by omega) (show s.2.2.1.getD j 0≤9223372036854775807 by omega),b1,b2,z10h_ hk hC hg,he,List.length_map,z1dp_ hk hs h hg,List.length_singleton,b3,hw,hln,z10p_]
    rw [if_pos (by omega)]
   ·intro n
    simp only [zbf_,Int.lt_irrefl,decide_false,Bool.false_eq_true,if_false]
    rw [z1di_ hk hll (fun l hl=>(hlines l hl).1) (fun l hl=>(hlines l hl).2)]
    rfl
  ·unfold z5p_
   split
   ·unfold z2e_; rw [List.length_map]; omega
   ·simp
def sumL {α:Type} (f:α→Nat) (l:List α):Nat:=(l.map f).sum
theorem zdq_ {α:Type} (f:α→Nat):sumL f []=0:=rfl
theorem z7a_ {α:Type} (f:α→Nat) (x:α) (l:List α):sumL f (x::l)=f x+sumL f l:=by simp [sumL]
theorem z10q_ {α:Type} (f:α→Nat) (l m:List α):sumL f (l++m)=sumL f l+sumL f m:=by simp [sumL]
theorem z7b_ {α:Type} (f:α→Nat) {x:α} {l:List α} (h:x∈l):f x≤sumL f l:=by
 induction l with
 | nil=>cases h
 | cons y l ih =>
  rw [z7a_]
  rcases List.mem_cons.1 h with rfl | h
  ·omega
  ·have:=ih h; omega
theorem z10r_ {α:Type} (xs:List α) {s:α→Nat} {L:Nat→Int→Int→Option Int}
  (h1:∀ n (i:Nat) x r,xs[i]?=some x→(i:Int)<xs.length→x∈xs→0≤r→r≤1048576→L (n+1) (i:Int) r=if (s x:Int)≤r then L n ((i+1:Nat):Int) (r-(s x:Int)) else some (-1))
  (h2:∀ n r,L (n+1) (xs.length:Int) r=some r) {n:Nat} (hn:xs.length<n) {r:Int} (h0:0≤r) (hr:r≤1048576):L n 0 r=some (if (sumL s xs:Int)≤r then r-(sumL s xs:Int) else -1):=by
 refine z1h_ (L:=L) (I:=fun _ r=>0≤r∧r≤1048576) (G:=fun post r=>some (if (sumL s post:Int)≤r then r-(sumL s post:Int) else -1)) xs ?_ ?_ n hn r ⟨h0,hr⟩
 ·intro n pre x post r hx hI ih hg hlt
  rw [h1 n pre.length x r hg hlt (List.mem_of_getElem? hg) hI.1 hI.2]
  have hc:sumL s (x::post)=s x+sumL s post:=z7a_ _ _ _
  by_cases c:(s x:Int)≤r
  ·rw [if_pos c,ih (r-(s x:Int)) ⟨by omega,by omega⟩]
   by_cases c2:(sumL s post:Int)≤r-(s x:Int)
   ·rw [if_pos c2,if_pos (by omega)]; congr 1; omega
   ·rw [if_neg c2,if_neg (by omega)]
  ·rw [if_neg c,if_neg (by omega)]
 ·intro n r hI
  rw [h2,zdq_,if_pos (by simpa using hI.1)]; simp
theorem z1dr_ {k:Nat} (hk:KK≤k) {n:Int} (h:n≤9223372036854775807):∃ t,z5c_ k n=some t:=by
 unfold z5c_
 by_cases h0:n≤0
 ·exact ⟨[109,48],by simp [h0]⟩
 ·simp only [decide_eq_true_eq,h0,if_false]
  have key:∀ (m:Nat) (n:Int) (out:List UInt8),0≤n→n<10 ^ m→n≤9223372036854775807→out.length+m≤100→∀ q,m<q→∃ t,z7z_ k q n out (fun out_1=>(if [109].length+out_1.length≤9223372036854775807 then some ([109]++out_1) else none))=some t:=by
   intro m
   induction m with
   | zero =>
    intro n out h1 h2 h3 h4 q hq
    obtain ⟨q,rfl⟩:∃ p,q=p+1:=⟨q-1,by omega⟩
    have:¬ 0<n:=by simp at h2; omega
    have h5:1+out.length≤9223372036854775807:=by omega
    exact ⟨[109]++out,by simp only [z7z_,decide_eq_true_eq,this,if_false,List.length_singleton,h5,if_true]⟩
   | succ m ih =>
    intro n out h1 h2 h3 h4 q hq
    obtain ⟨q,rfl⟩:∃ p,q=p+1:=⟨q-1,by omega⟩
    by_cases hn:0<n
    ·have hd:Int.tdiv n 10=n / 10:=Int.tdiv_eq_ediv_of_nonneg h1
     have hw:z0_ (Int.tdiv n 10)=n / 10:=by rw [hd,w_id (by omega) (by omega)]
     have h5:1+out.length≤9223372036854775807:=by omega
     have h6:n / 10<10 ^ m:=by
      rw [Int.pow_succ] at h2
      omega
     obtain ⟨t,ht⟩:=ih (n / 10) ((to_S [(w_u8 ((z0_ (48+(Int.tmod n 10)))))])++out) (by omega) h6 (by omega) (by simp; omega) q (by omega)
     refine ⟨t,?_⟩
     simp only [z7z_,decide_eq_true_eq,hn,if_true,hw]
     rw [if_pos (by simp; omega)]
     exact ht
    ·have h5:1+out.length≤9223372036854775807:=by omega
     exact ⟨[109]++out,by simp only [z7z_,decide_eq_true_eq,hn,if_false,List.length_singleton,h5,if_true]⟩
  exact key 20 n [] (by omega) (by omega) h (by simp) k (by have:=zg_; omega)
def mkL {α:Type} (f:α→Int→α×Int):List α→Int→List α×Int
 | [],m=>([],m)
 | x::l,m=>((f x m).1::(mkL f l (f x m).2).1,(mkL f l (f x m).2).2)
theorem zq7_ {α:Type} (f:α→Int→α×Int):∀ (l:List α) (m:Int),(mkL f l m).1.length=l.length
 | [],_=>rfl
 | x::l,m=>by simp [mkL,zq7_ f l]
theorem z10s_ {α:Type} {f:α→Int→α×Int} {c:α→Nat} (hc:∀ x m,(f x m).2=m+(c x:Int)):∀ (l:List α) (m:Int),(mkL f l m).2=m+(sumL c l:Int)
 | [],m=>by simp [mkL,zdq_]
 | x::l,m=>by
  have h1:=z7a_ c x l
  show (mkL f l (f x m).2).2=_
  rw [z10s_ hc l,hc]; omega
theorem z10t_ {α:Type} {f:α→Int→α×Int}:∀ (l r:List α) (m:Int),(mkL f (l++r) m).1=(mkL f l m).1++(mkL f r (mkL f l m).2).1
 | [],r,m=>rfl
 | x::l,r,m=>by simp [mkL,z10t_ l r]
theorem zdr_ {α Q R:Type} {f:α→Int→α×Int} {c:α→Nat} (hc:∀ x m,(f x m).2=m+(c x:Int)) (xs:List α) {m0 B:Int} (hB:m0+(sumL c xs:Int)≤B) {S:List α→Q} {L:Nat→Int→Int→Q→R} {G:R}
  (h1:∀ n (i:Nat) m l y,l.length=xs.length→l[i]?=some y→y∈xs→m0≤m→m+(c y:Int)≤B→(i:Int)<l.length→i<l.length→L (n+1) m (i:Int) (S l)=L n (m+(c y:Int)) ((i+1:Nat):Int) (S (l.set i (f y m).1)))
  (h2:∀ n l,l=(mkL f xs m0).1→l.length=xs.length→L (n+1) (m0+(sumL c xs:Int)) (xs.length:Int) (S l)=G) {n:Nat} (hn:xs.length<n):L n m0 0 (S xs)=G:=by
 have main:∀ (post pre:List α) (n:Nat),xs=pre++post→post.length<n→L n (m0+(sumL c pre:Int)) (pre.length:Int) (S ((mkL f pre m0).1++post))=G:=by
  intro post
  induction post with
  | nil =>
   intro pre n hx hn
   obtain ⟨m,rfl⟩:∃ m,n=m+1:=⟨n-1,by simp at hn; omega⟩
   rw [List.append_nil] at hx ⊢
   subst hx
   exact h2 m _ rfl (zq7_ f _ _)
  | cons x post ih =>
   intro pre n hx hn
   obtain ⟨m,rfl⟩:∃ m,n=m+1:=⟨n-1,by simp at hn; omega⟩
   have hl:(mkL f pre m0).1.length=pre.length:=zq7_ f _ _
   have hs:sumL c xs=sumL c pre+(c x+sumL c post):=by rw [hx,z10q_,z7a_]
   rw [h1 m pre.length (m0+(sumL c pre:Int)) ((mkL f pre m0).1++x::post) x (by rw [hx]; simp [hl]) (by rw [List.getElem?_append_right (by omega),hl]; simp) (by rw [hx]; simp) (by omega) (by omega) (by simp [hl]; omega) (by simp [hl])]
   have:=ih (pre++[x]) m (by rw [hx]; simp) (by simp at hn; omega)
   have e1:((mkL f pre m0).1++x::post).set pre.length (f x (m0+(sumL c pre:Int))).1=(mkL f (pre++[x]) m0).1++post:=by
    rw [List.set_append_right _ _ (by omega),hl,Nat.sub_self,List.set_cons_zero,z10t_,z10s_ hc]
    simp [mkL]
   have e2:m0+(sumL c pre:Int)+(c x:Int)=m0+(sumL c (pre++[x]):Int):=by rw [z10q_,z7a_,zdq_]; omega
   rw [e1,e2]
   rw [List.length_append] at this
   simpa using this
 have:=main xs [] n rfl hn
 simpa [zdq_,mkL] using this
theorem zkn_ {α:Type}:∀ l:List α,sumL (fun _=>1) l=l.length
 | []=>rfl
 | x::l=>by rw [z7a_,zkn_ l,List.length_cons]; omega
def mkI (_:Int) (m:Int):Int×Int:=(m,m+((1:Nat):Int))
theorem zq8_:∀ (x:Int) (m:Int),(mkI x m).2=m+(((fun _:Int=>1) x:Nat):Int):=fun _ _=>rfl
theorem z1ds_ {k:Nat} (hk:KK≤k) {q:List (List Int)} {a:Nat} {z:List Int} (hz:q[a]?=some z) {m:Int} (h0:0≤m) (h1:m≤1000000000000000000) (hl:z.length≤1000000000000) :
  zk3_ k a m q=some ((m+(z.length:Int),()),(q.set a (mkL mkI z m).1,()),()):=by
 have hK:=zg_
 have ha:=(List.getElem?_eq_some_iff.1 hz).1
 have hs:=zkn_ z
 unfold zk3_
 have e:q=q.set a z:=by
  obtain ⟨h,rfl⟩:=List.getElem?_eq_some_iff.1 hz
  exact (List.set_getElem_self h).symm
 have:=zdr_ zq8_ z (m0:=m) (B:=2000000000000000000) (by omega) (S:=fun l=>q.set a l) (L:=fun n m i q=>zbm_ k n a m i q (fun k_10 q_11=>some ((k_10,()),(q_11,()),())))
  (G:=some ((m+(z.length:Int),()),(q.set a (mkL mkI z m).1,()),())) ?_ ?_ (n:=k) (by omega)
 ·rw [← e] at this
  exact this
 ·intro n i m l y hll hg hy m0 m1 hlt hlt'
  have hw:=zf_ (i:=i) (by omega)
  have hm:z0_ (m+1)=m+((1:Nat):Int):=w_id (by omega) (by omega)
  simp only [zbm_,List.getElem?_set_self ha,Option.bind_some,hlt,hlt',decide_true,if_true,Int.natCast_nonneg,Int.toNat_natCast,and_self,List.getElem?_eq_getElem hlt',hm,hw,List.set_set,mkI]
 ·intro n l hl2 hll
  have:¬ (z.length:Int)<(l.length:Int):=by omega
  simp only [zbm_,List.getElem?_set_self ha,Option.bind_some,this,decide_false,Bool.false_eq_true,if_false,hs]
  rw [hl2]
def mkIS (z:List Int) (m:Int):List Int×Int:=((mkL mkI z m).1,m+(z.length:Int))
theorem z1dt_ (z:List Int) (m:Int):(mkIS z m).2=m+(z.length:Int):=rfl
theorem z1du_ {k:Nat} (hk:KK≤k) {L:List (List Int)} {m:Int} (h0:0≤m) (h1:m+(sumL List.length L:Int)≤100000000000000000) (hx:∀ x∈L,x.length≤1000000000000) (hL:L.length≤1000000000000) :
  zk6_ k m L=some ((m+(sumL List.length L:Int),()),((mkL mkIS L m).1,()),()):=by
 have hK:=zg_
 unfold zk6_
 refine zdr_ z1dt_ L (m0:=m) (B:=100000000000000000) h1 (S:=fun l=>l) (L:=fun n m i q=>zbn_ k n m i q (fun k_5 q_6=>some ((k_5,()),(q_6,()),()))) ?_ ?_ (n:=k) (by omega)
 ·intro n i m' l y hll hg hy m0 m1 hlt hlt'
  have hw:=zf_ (i:=i) (by omega)
  have st:=z1ds_ hk hg (m:=m') (by omega) (by omega) (hx y hy)
  simp only [zbn_,hlt,hlt',decide_true,if_true,Option.bind_some,Int.natCast_nonneg,Int.toNat_natCast,and_self,hg,st,hw]
  rfl
 ·intro n l hl2 hll
  have:¬ (L.length:Int)<(l.length:Int):=by omega
  simp only [zbn_,this,decide_false,Bool.false_eq_true,if_false]
  rw [hl2]
theorem z1dv_ {k:Nat} (hk:KK≤k) {a:List Int} {m:Int} (h0:0≤m) (h1:m≤1000000000000000000) (hl:a.length≤1000000000000) :
  zg7_ k m a=some ((m+(a.length:Int),()),((mkL mkI a m).1,()),()):=by
 have hK:=zg_
 have hs:=zkn_ a
 unfold zg7_
 refine zdr_ zq8_ a (m0:=m) (B:=2000000000000000000) (by omega) (S:=fun l=>l) (L:=fun n m i q=>zbo_ k n m i q (fun k_5 q_6=>some ((k_5,()),(q_6,()),()))) ?_ ?_ (n:=k) (by omega)
 ·intro n i m l y hll hg hy m0 m1 hlt hlt'
  have hw:=zf_ (i:=i) (by omega)
  have hm:z0_ (m+1)=m+((1:Nat):Int):=w_id (by omega) (by omega)
  simp only [zbo_,Option.bind_some,hlt,hlt',decide_true,if_true,Int.natCast_nonneg,Int.toNat_natCast,and_self,List.getElem?_eq_getElem hlt',hm,hw,mkI]
 ·intro n l hl2 hll
  have:¬ (a.length:Int)<(l.length:Int):=by omega
  simp only [zbo_,this,decide_false,Bool.false_eq_true,if_false,hs]
  rw [hl2]
theorem z10u_ {α:Type} {f g:α→Nat} {c:Nat}:∀ {l:List α},(∀ x∈l,f x≤g x+c)→sumL f l≤sumL g l+c*l.length
 | [],_=>by simp [zdq_]
 | x::l,h=>by
  have h1:=h x (by simp)
  have h2:=z10u_ (f:=f) (g:=g) (c:=c) (l:=l) fun y hy=>h y (by simp [hy])
  rw [z7a_,z7a_,List.length_cons,Nat.mul_succ]
  omega
theorem z1dw_ {k:Nat} (hk:KK≤k) {q:List Mat} {a:Nat} {z:Mat} (hz:q[a]?=some z) {m:Int} (h0:0≤m) (h1:m≤1000000000000000000) (hl:z.2.2.2.length≤1000000000000) :
  zg2_ k a m q=some ((m+(z.2.2.2.length:Int),()),(q.set a (z.1,z.2.1,z.2.2.1,(mkL mkI z.2.2.2 m).1),()),()):=by
 have hK:=zg_
 have ha:=(List.getElem?_eq_some_iff.1 hz).1
 have hs:=zkn_ z.2.2.2
 unfold zg2_
 have e:q=q.set a (z.1,z.2.1,z.2.2.1,z.2.2.2):=by
  obtain ⟨h,rfl⟩:=List.getElem?_eq_some_iff.1 hz
  exact (List.set_getElem_self h).symm
 have:=zdr_ zq8_ z.2.2.2 (m0:=m) (B:=2000000000000000000) (by omega) (S:=fun l=>q.set a (z.1,z.2.1,z.2.2.1,l)) (L:=fun n m i q=>za6_ k n a m i q (fun k_10 q_11=>some ((k_10,()),(q_11,()),())))
  (G:=some ((m+(z.2.2.2.length:Int),()),(q.set a (z.1,z.2.1,z.2.2.1,(mkL mkI z.2.2.2 m).1),()),())) ?_ ?_ (n:=k) (by omega)
 ·rw [← e] at this
  exact this
 ·intro n i m l y hll hg hy m0 m1 hlt hlt'
  have hw:=zf_ (i:=i) (by omega)
  have hm:z0_ (m+1)=m+((1:Nat):Int):=w_id (by omega) (by omega)
  simp only [za6_,List.getElem?_set_self ha,Option.bind_some,hlt,hlt',decide_true,if_true,Int.natCast_nonneg,Int.toNat_natCast,and_self,List.getElem?_eq_getElem hlt',hm,hw,List.set_set,mkI]
 ·intro n l hl2 hll
  have:¬ (z.2.2.2.length:Int)<(l.length:Int):=by omega
  simp only [za6_,List.getElem?_set_self ha,Option.bind_some,this,decide_false,Bool.false_eq_true,if_false,hs]
  rw [hl2]
def ctM (x:Mat):Nat:=x.2.2.2.length+3
def mkMt (x:Mat) (m:Int):Mat×Int:=((m,m+1,m+1+1,(mkL mkI x.2.2.2 (m+1+1+1)).1),m+(ctM x:Int))
theorem z1dx_ (x:Mat) (m:Int):(mkMt x m).2=m+(ctM x:Int):=rfl
theorem z1dy_ {k:Nat} (hk:KK≤k) {L:List Mat} {m:Int} (h0:0≤m) (h1:m+(sumL ctM L:Int)≤10000000000000000) (hx:∀ x∈L,x.2.2.2.length≤1000000000000) (hL:L.length≤1000000000000) :
  zg5_ k m L=some ((m+(sumL ctM L:Int),()),((mkL mkMt L m).1,()),()):=by
 have hK:=zg_
 unfold zg5_
 refine zdr_ z1dx_ L (m0:=m) (B:=10000000000000000) h1 (S:=fun l=>l) (L:=fun n m i q=>za7_ k n m i q (fun k_11 q_12=>some ((k_11,()),(q_12,()),()))) ?_ ?_ (n:=k) (by omega)
 ·intro n i m' l y hll hg hy m0 m1 hlt hlt'
  have hw:=zf_ (i:=i) (by omega)
  have hc:ctM y=y.2.2.2.length+3:=rfl
  have w1:z0_ (m'+1)=m'+1:=w_id (by omega) (by omega)
  have w2:z0_ (m'+1+1)=m'+1+1:=w_id (by omega) (by omega)
  have w3:z0_ (m'+1+1+1)=m'+1+1+1:=w_id (by omega) (by omega)
  have st:=z1dw_ hk (q:=l.set i (m',m'+1,m'+1+1,y.2.2.2)) (a:=i) (z:=(m',m'+1,m'+1+1,y.2.2.2)) (List.getElem?_set_self hlt') (m:=m'+1+1+1) (by omega) (by omega) (hx y hy)
  have e:m'+1+1+1+(y.2.2.2.length:Int)=m'+(ctM y:Int):=by omega
  simp only [za7_,hlt,hlt',decide_true,if_true,Option.bind_some,Int.natCast_nonneg,Int.toNat_natCast,and_self,hg,List.length_set,List.getElem?_set_self hlt',w1,w2,w3,List.set_set,st,e,hw]
  rfl
 ·intro n l hl2 hll
  have:¬ (L.length:Int)<(l.length:Int):=by omega
  simp only [za7_,this,decide_false,Bool.false_eq_true,if_false]
  rw [hl2]
instance dec_Int64S:DecidableEq (List Int):=inferInstance
def z12_ (a:List Int):Nat:=a.length
theorem zq9_ {a:List Int} {e0:TypeId} {left:Int} (h0:0≤left) (h1:left≤1048576) (h:InR (.sl e0 (.int .i64)) a):z9r_ a left=some (if (z12_ a:Int)≤left then left-(z12_ a:Int) else -1):=by
 have hl:a.length≤140737488351232:=h.1
 have hs:z12_ a=a.length:=rfl
 unfold z9r_
 rw [hs,w_id (by omega) (by omega)]
 by_cases c:(a.length:Int)≤left
 ·rw [decide_eq_false (by omega),if_neg (by simp),if_pos c]
 ·rw [decide_eq_true (by omega),if_pos rfl,if_neg c]
instance dec_Int64SS:DecidableEq (List (List Int)):=inferInstance
def z26_ (a:List (List Int)):Nat:=a.length+sumL z12_ a
theorem z1dz_ {k:Nat} (hk:KK≤k) {a:List (List Int)} {e0 e1:TypeId} {left:Int} (h0:0≤left) (h1:left≤1048576) (h:InR (.sl e0 (.sl e1 (.int .i64))) a):zfd_ k a left=some (if (z26_ a:Int)≤left then left-(z26_ a:Int) else -1):=by
 have hl:a.length≤140737488351232:=h.1
 have hs:z26_ a=a.length+sumL z12_ a:=rfl
 have hK:=zg_
 unfold zfd_
 rw [hs,w_id (by omega) (by omega)]
 by_cases c:(a.length:Int)≤left
 ·rw [decide_eq_false (by omega),if_neg (by simp)]
  refine Eq.trans (z10r_ (L:=fun n i r=>z9t_ k n a r i fun r=>some r) (s:=z12_) a ?_ ?_ (n:=k) (by omega) (r:=left-(a.length:Int)) (by omega) (by omega)) ?_
  ·intro n i x r hi hlt hm r0 r1
   have hw:=zf_ (i:=i) (by omega)
   have hx:=zq9_ (a:=x) r0 r1 (h.2 x hm)
   simp only [z9t_,hlt,decide_true,if_true,Int.natCast_nonneg,Int.toNat_natCast,hi,Option.bind_some,hw,hx]
   by_cases c2:(z12_ x:Int)≤r
   ·rw [if_pos c2,decide_eq_false (by omega),if_neg (by simp),if_pos c2]
   ·rw [if_neg c2,decide_eq_true (by omega),if_pos rfl,if_neg c2]
  ·intro n r
   simp [z9t_]
  ·by_cases c2:(sumL z12_ a:Int)≤left-(a.length:Int)
   ·rw [if_pos c2,if_pos (by omega)]; congr 1; omega
   ·rw [if_neg c2,if_neg (by omega)]
 ·rw [decide_eq_true (by omega),if_pos rfl,if_neg (by omega)]
instance dec_Complex:DecidableEq (List (List Int)):=inferInstance
def z2q_ (a:List (List Int)):Nat:=(z26_ a)
theorem z1e0_ {k:Nat} (hk:KK≤k) {a:List (List Int)} {e0 e1:TypeId} {left:Int} (h0:0≤left) (h1:left≤1048576) (h:InR (.st (.sl e0 (.sl e1 (.int .i64)))) a):zff_ k a left=some (if (z2q_ a:Int)≤left then left-(z2q_ a:Int) else -1):=by
 have hs:z2q_ a=(z26_ a):=rfl
 unfold zff_
 rw [hs]
 have q0:=z1dz_ hk (a:=a) (left:=left) (by omega) (by omega) h
 rw [q0]
 by_cases c0:((z26_ a):Int)≤left
 case neg=>rw [if_neg c0]; simp only [Option.bind_some]; rw [decide_eq_true (by omega),if_pos rfl]
 rw [if_pos c0]; simp only [Option.bind_some]
 rw [decide_eq_false (by omega),if_neg (by simp)]
instance dec_Matrix_2:DecidableEq (Int×List Int):=inferInstance
instance dec_Matrix_1:DecidableEq (Int×Int×List Int):=inferInstance
instance dec_Matrix:DecidableEq (Int×Int×Int×List Int):=inferInstance
def z1j_ (a:Int×Int×Int×List Int):Nat:=(z12_ (a.2.2.2))
theorem z1e1_ {a:Int×Int×Int×List Int} {e0:TypeId} {left:Int} (h0:0≤left) (h1:left≤1048576) (h:InR (.st (.pr (.int .i64) (.pr (.int .i64) (.pr (.int .i64) (.sl e0 (.int .i64)))))) a):zfg_ a left=some (if (z1j_ a:Int)≤left then left-(z1j_ a:Int) else -1):=by
 have hs:z1j_ a=(z12_ (a.2.2.2)):=rfl
 unfold zfg_
 rw [hs]
 have q0:=zq9_ (a:=a.2.2.2) (left:=left) (by omega) (by omega) h.2.2.2
 rw [q0]
 by_cases c0:((z12_ (a.2.2.2)):Int)≤left
 case neg=>rw [if_neg c0]; simp only [Option.bind_some]; rw [decide_eq_true (by omega),if_pos rfl]
 rw [if_pos c0]; simp only [Option.bind_some]
 rw [decide_eq_false (by omega),if_neg (by simp)]
instance dec_MatrixS:DecidableEq (List (Int×Int×Int×List Int)):=inferInstance
def z27_ (a:List (Int×Int×Int×List Int)):Nat:=a.length+sumL z1j_ a
theorem z1e2_ {k:Nat} (hk:KK≤k) {a:List (Int×Int×Int×List Int)} {e0 e1:TypeId} {left:Int} (h0:0≤left) (h1:left≤1048576) (h:InR (.sl e0 (.st (.pr (.int .i64) (.pr (.int .i64) (.pr (.int .i64) (.sl e1 (.int .i64))))))) a):zfi_ k a left=some (if (z27_ a:Int)≤left then left-(z27_ a:Int) else -1):=by
 have hl:a.length≤140737488351232:=h.1
 have hs:z27_ a=a.length+sumL z1j_ a:=rfl
 have hK:=zg_
 unfold zfi_
 rw [hs,w_id (by omega) (by omega)]
 by_cases c:(a.length:Int)≤left
 ·rw [decide_eq_false (by omega),if_neg (by simp)]
  refine Eq.trans (z10r_ (L:=fun n i r=>z9u_ k n a r i fun r=>some r) (s:=z1j_) a ?_ ?_ (n:=k) (by omega) (r:=left-(a.length:Int)) (by omega) (by omega)) ?_
  ·intro n i x r hi hlt hm r0 r1
   have hw:=zf_ (i:=i) (by omega)
   have hx:=z1e1_ (a:=x) r0 r1 (h.2 x hm)
   simp only [z9u_,hlt,decide_true,if_true,Int.natCast_nonneg,Int.toNat_natCast,hi,Option.bind_some,hw,hx]
   by_cases c2:(z1j_ x:Int)≤r
   ·rw [if_pos c2,decide_eq_false (by omega),if_neg (by simp),if_pos c2]
   ·rw [if_neg c2,decide_eq_true (by omega),if_pos rfl,if_neg c2]
  ·intro n r
   simp [z9u_]
  ·by_cases c2:(sumL z1j_ a:Int)≤left-(a.length:Int)
   ·rw [if_pos c2,if_pos (by omega)]; congr 1; omega
   ·rw [if_neg c2,if_neg (by omega)]
 ·rw [decide_eq_true (by omega),if_pos rfl,if_neg (by omega)]
instance dec_Sheaf_2:DecidableEq (List Int×(List (Int×Int×Int×List Int))):=inferInstance
instance dec_Sheaf_1:DecidableEq (Int×List Int×(List (Int×Int×Int×List Int))):=inferInstance
instance dec_Sheaf:DecidableEq (List (List Int)×Int×List Int×(List (Int×Int×Int×List Int))):=inferInstance
def z2r_ (a:List (List Int)×Int×List Int×(List (Int×Int×Int×List Int))):Nat:=(z2q_ (a.1))+(z12_ (a.2.2.1))+(z27_ (a.2.2.2))
theorem z1e3_ {k:Nat} (hk:KK≤k) {a:List (List Int)×Int×List Int×(List (Int×Int×Int×List Int))} {e0 e1 e2 e3 e4:TypeId} {left:Int} (h0:0≤left) (h1:left≤1048576) (h:InR (.st (.pr (.st (.sl e0 (.sl e1 (.int .i64)))) (.pr (.int .i64) (.pr (.sl e2 (.int .i64)) (.sl e3 (.st (.pr (.int .i64) (.pr (.int .i64) (.pr (.int .i64) (.sl e4 (.int .i64))))))))))) a):zfk_ k a left=some (if (z2r_ a:Int)≤left then left-(z2r_ a:Int) else -1):=by
 have hs:z2r_ a=(z2q_ (a.1))+(z12_ (a.2.2.1))+(z27_ (a.2.2.2)):=rfl
 unfold zfk_
 rw [hs]
 have q0:=z1e0_ hk (a:=a.1) (left:=left) (by omega) (by omega) h.1
 rw [q0]
 by_cases c0:((z2q_ (a.1)):Int)≤left
 case neg=>rw [if_neg c0]; simp only [Option.bind_some]; rw [decide_eq_true (by omega),if_pos rfl,if_neg (by omega)]
 rw [if_pos c0]; simp only [Option.bind_some]
 rw [decide_eq_false (by omega),if_neg (by simp)]
 have q1:=zq9_ (a:=a.2.2.1) (left:=left-((z2q_ (a.1)):Int)) (by omega) (by omega) h.2.2.1
 rw [q1]
 by_cases c1:((z12_ (a.2.2.1)):Int)≤left-((z2q_ (a.1)):Int)
 case neg=>rw [if_neg c1]; simp only [Option.bind_some]; rw [decide_eq_true (by omega),if_pos rfl,if_neg (by omega)]
 rw [if_pos c1]; simp only [Option.bind_some]
 rw [decide_eq_false (by omega),if_neg (by simp)]
 have q2:=z1e2_ hk (a:=a.2.2.2) (left:=left-((z2q_ (a.1)):Int)-((z12_ (a.2.2.1)):Int)) (by omega) (by omega) h.2.2.2
 rw [q2]
 by_cases c2:((z27_ (a.2.2.2)):Int)≤left-((z2q_ (a.1)):Int)-((z12_ (a.2.2.1)):Int)
 case neg=>rw [if_neg c2]; simp only [Option.bind_some]; rw [decide_eq_true (by omega),if_pos rfl,if_neg (by omega)]
 rw [if_pos c2]; simp only [Option.bind_some]
 rw [decide_eq_false (by omega),if_neg (by simp)]
 rw [if_pos (by omega)]; congr 1; omega
theorem z1e4_ {s:She} (h:z2r_ s≤1048576):smallSh s:=by
 have e:z2r_ s=s.1.length+sumL List.length s.1+s.2.2.1.length+(s.2.2.2.length+sumL z1j_ s.2.2.2):=rfl
 refine ⟨⟨by omega,fun x hx=>by have:=z7b_ List.length hx; omega⟩,by omega,by omega,fun m hm=>?_⟩
 have h1:=z7b_ z1j_ hm
 have h2:z1j_ m=m.2.2.2.length:=rfl
 omega
theorem zqa_ {k:Nat} (hk:KK≤k) {a:List Int} (h:z12_ a≤10000000000):z9w_ k a=some a:=by
 have hl:a.length≤10000000000:=Nat.le_trans (show a.length≤z12_ a by unfold z12_; omega) h
 unfold z9w_
 have hL:=z1l_
 rw [if_pos ⟨by omega,Int.le_refl _,by omega⟩]
 refine zma_ (L:=fun n i q=>z9v_ k n a i q fun q_5=>some q_5) (e:=fun q=>some q) a _ (by simp) ?_ ?_ (n:=k) (by have:=zg_; omega)
 ·intro n i x q hx hlt hq
  have hw:=zf_ (i:=i) (by omega)
  have hi:i<q.length:=by omega
  simp [z9v_,hlt,hx,hw,hi]
 ·intro n q
  simp [z9v_]
theorem z1e5_ {k:Nat} (hk:KK≤k) {a:List (List Int)} (h:z26_ a≤10000000000):zfm_ k a=some a:=by
 have hl:a.length≤10000000000:=Nat.le_trans (show a.length≤z26_ a by unfold z26_; omega) h
 unfold zfm_
 have hL:=z1l_
 rw [if_pos ⟨by omega,Int.le_refl _,by omega⟩]
 refine zma_ (L:=fun n i q=>z9y_ k n a i q fun q_5=>some q_5) (e:=fun q=>some q) a _ (by simp) ?_ ?_ (n:=k) (by have:=zg_; omega)
 ·intro n i x q hx hlt hq
  have hw:=zf_ (i:=i) (by omega)
  have hi:i<q.length:=by omega
  have hm:=z7b_ z12_ (List.mem_of_getElem? hx)
  have hb:z12_ x≤10000000000:=by unfold z26_ at h; omega
  simp [z9y_,zqa_ hk hb,hlt,hx,hw,hi]
 ·intro n q
  simp [z9y_]
theorem z1e6_ {k:Nat} (hk:KK≤k) {a:List (List Int)} (h:z2q_ a≤10000000000):zfo_ k a=some a:=by
 have b0:(z26_ a)≤10000000000:=by unfold z2q_ at h; omega
 unfold zfo_
 simp only [z1e5_ hk b0,Option.bind_some] <;> rfl
theorem z1e7_ {k:Nat} (hk:KK≤k) {a:Int×Int×Int×List Int} (h:z1j_ a≤10000000000):zfp_ k a=some a:=by
 have b3:(z12_ (a.2.2.2))≤10000000000:=by unfold z1j_ at h; omega
 unfold zfp_
 simp only [zqa_ hk b3,Option.bind_some] <;> rfl
theorem z1e8_ {k:Nat} (hk:KK≤k) {a:List (Int×Int×Int×List Int)} (h:z27_ a≤10000000000):zfr_ k a=some a:=by
 have hl:a.length≤10000000000:=Nat.le_trans (show a.length≤z27_ a by unfold z27_; omega) h
 unfold zfr_
 have hL:=z1l_
 rw [if_pos ⟨by omega,Int.le_refl _,by omega⟩]
 refine zma_ (L:=fun n i q=>z9z_ k n a i q fun q_5=>some q_5) (e:=fun q=>some q) a _ (by simp) ?_ ?_ (n:=k) (by have:=zg_; omega)
 ·intro n i x q hx hlt hq
  have hw:=zf_ (i:=i) (by omega)
  have hi:i<q.length:=by omega
  have hm:=z7b_ z1j_ (List.mem_of_getElem? hx)
  have hb:z1j_ x≤10000000000:=by unfold z27_ at h; omega
  simp [z9z_,z1e7_ hk hb,hlt,hx,hw,hi]
 ·intro n q
  simp [z9z_]
theorem z1e9_ {k:Nat} (hk:KK≤k) {a:List (List Int)×Int×List Int×(List (Int×Int×Int×List Int))} (h:z2r_ a≤10000000000):z7x_ k a=some a:=by
 have b0:(z2q_ (a.1))≤10000000000:=by unfold z2r_ at h; omega
 have b2:(z12_ (a.2.2.1))≤10000000000:=by unfold z2r_ at h; omega
 have b3:(z27_ (a.2.2.2))≤10000000000:=by unfold z2r_ at h; omega
 unfold z7x_
 simp only [z1e6_ hk b0,zqa_ hk b2,z1e8_ hk b3,Option.bind_some] <;> rfl
theorem zqb_ {k:Nat} (hk:KK≤k) {a b:List Int} (h:z12_ a≤10000000000):zbi_ k a b=some (decide (a=b)):=by
 have hle:a.length≤10000000000:=Nat.le_trans (show a.length≤z12_ a by unfold z12_; omega) h
 unfold zbi_
 by_cases hl:a.length=b.length
 ·rw [if_neg (by simp [hl])]
  refine zcs_ (L:=fun n i=>zbh_ k n a b i (some true)) a b hl ?_ ?_ (n:=k) (by have:=zg_; omega)
  ·intro n i x y hx hy hlt
   have hw:=zf_ (i:=i) (by omega)
   by_cases e:x=y <;> simp [zbh_,hlt,hx,hy,hw,e]
  ·intro n
   simp [zbh_]
 ·have h2:a≠b:=fun e=>hl (by rw [e])
  have h3:¬ (a.length:Int)=b.length:=by omega
  simp [h3,h2]
theorem z1ea_ {k:Nat} (hk:KK≤k) {a b:List (List Int)} (h:z26_ a≤10000000000):zjw_ k a b=some (decide (a=b)):=by
 have hle:a.length≤10000000000:=Nat.le_trans (show a.length≤z26_ a by unfold z26_; omega) h
 unfold zjw_
 by_cases hl:a.length=b.length
 ·rw [if_neg (by simp [hl])]
  refine zcs_ (L:=fun n i=>zbk_ k n a b i (some true)) a b hl ?_ ?_ (n:=k) (by have:=zg_; omega)
  ·intro n i x y hx hy hlt
   have hw:=zf_ (i:=i) (by omega)
   have hm:=z7b_ z12_ (List.mem_of_getElem? hx)
   have hb:z12_ x≤10000000000:=by unfold z26_ at h; omega
   simp only [zbk_,hlt,decide_true,if_true,Int.natCast_nonneg,Int.toNat_natCast,hx,hy,Option.bind_some,hw,zqb_ hk hb]
   by_cases e:x=y
   ·rw [decide_eq_true e,if_pos e]; simp
   ·rw [decide_eq_false e,if_neg e]; simp
  ·intro n
   simp [zbk_]
 ·have h2:a≠b:=fun e=>hl (by rw [e])
  have h3:¬ (a.length:Int)=b.length:=by omega
  simp [h3,h2]
theorem z1eb_ {k:Nat} (hk:KK≤k) {a b:List (List Int)} (h:z2q_ a≤10000000000):zjy_ k a b=some (decide (a=b)):=by
 have c0:(z26_ a)≤10000000000:=by unfold z2q_ at h; omega
 unfold zjy_
 simp only [z1ea_ hk c0,Option.bind_some,Prod.mk.injEq]
 by_cases x0:a=b
 case neg=>simp [x0]
 subst x0
 simp
theorem z1ec_ {k:Nat} (hk:KK≤k) {a b:Int×Int×Int×List Int} (h:z1j_ a≤10000000000):zjz_ k a b=some (decide (a=b)):=by
 obtain ⟨a0,a1,a2,a3⟩:=a
 obtain ⟨b0,b1,b2,b3⟩:=b
 have c3:(z12_ a3)≤10000000000:=by unfold z1j_ at h; simp only at h; omega
 unfold zjz_
 simp only [zqb_ hk c3,Option.bind_some,Prod.mk.injEq]
 by_cases x0:a0=b0
 case neg=>simp [x0]
 subst x0
 by_cases x1:a1=b1
 case neg=>simp [x1]
 subst x1
 by_cases x2:a2=b2
 case neg=>simp [x2]
 subst x2
 by_cases x3:a3=b3
 case neg=>simp [x3]
 subst x3
 simp
theorem z1ed_ {k:Nat} (hk:KK≤k) {a b:List (Int×Int×Int×List Int)} (h:z27_ a≤10000000000):zk1_ k a b=some (decide (a=b)):=by
 have hle:a.length≤10000000000:=Nat.le_trans (show a.length≤z27_ a by unfold z27_; omega) h
 unfold zk1_
 by_cases hl:a.length=b.length
 ·rw [if_neg (by simp [hl])]
  refine zcs_ (L:=fun n i=>zbl_ k n a b i (some true)) a b hl ?_ ?_ (n:=k) (by have:=zg_; omega)
  ·intro n i x y hx hy hlt
   have hw:=zf_ (i:=i) (by omega)
   have hm:=z7b_ z1j_ (List.mem_of_getElem? hx)
   have hb:z1j_ x≤10000000000:=by unfold z27_ at h; omega
   simp only [zbl_,hlt,decide_true,if_true,Int.natCast_nonneg,Int.toNat_natCast,hx,hy,Option.bind_some,hw,z1ec_ hk hb]
   by_cases e:x=y
   ·rw [decide_eq_true e,if_pos e]; simp
   ·rw [decide_eq_false e,if_neg e]; simp
  ·intro n
   simp [zbl_]
 ·have h2:a≠b:=fun e=>hl (by rw [e])
  have h3:¬ (a.length:Int)=b.length:=by omega
  simp [h3,h2]
theorem z1ee_ {k:Nat} (hk:KK≤k) {a b:List (List Int)×Int×List Int×(List (Int×Int×Int×List Int))} (h:z2r_ a≤10000000000):zge_ k a b=some (decide (a=b)):=by
 obtain ⟨a0,a1,a2,a3⟩:=a
 obtain ⟨b0,b1,b2,b3⟩:=b
 have c0:(z2q_ a0)≤10000000000:=by unfold z2r_ at h; simp only at h; omega
 have c2:(z12_ a2)≤10000000000:=by unfold z2r_ at h; simp only at h; omega
 have c3:(z27_ a3)≤10000000000:=by unfold z2r_ at h; simp only at h; omega
 unfold zge_
 simp only [z1eb_ hk c0,zqb_ hk c2,z1ed_ hk c3,Option.bind_some,Prod.mk.injEq]
 by_cases x0:a0=b0
 case neg=>simp [x0]
 subst x0
 by_cases x1:a1=b1
 case neg=>simp [x1]
 subst x1
 by_cases x2:a2=b2
 case neg=>simp [x2]
 subst x2
 by_cases x3:a3=b3
 case neg=>simp [x3]
 subst x3
 simp
theorem z1ef_ (x:List (List Int)×Int×List Int×(List (Int×Int×Int×List Int))):(x.1,(x.2.1,(x.2.2.1,x.2.2.2)))=x:=rfl
theorem z1eg_ {k:Nat} (hk:KK≤k) {a:List (List UInt8)} {m:Int} (h0:0≤m) (h1:m≤1000000000000) (ha:a.length≤1000000000000) :
  ∃ q,zg9_ k m a=some ((m+a.length,()),(q,()),())∧zcx_ k q m=some (m+a.length):=by
 have mt:∀ i:Nat,i≤2000000000000→∃ t,z5c_ k (m+i)=some t:=fun i hi=>z1dr_ hk (by omega)
 let T:Nat→List UInt8:=fun i=>(z5c_ k (m+i)).getD []
 have hT:∀ i:Nat,i≤2000000000000→z5c_ k (m+i)=some (T i):=fun i hi=>by
  obtain ⟨t,ht⟩:=mt i hi
  show _=some ((z5c_ k (m+i)).getD [])
  rw [ht]; rfl
 refine ⟨(List.range a.length).map T,?_,?_⟩
 ·unfold zg9_
  have:=z1h_ (α:=Nat) (A:=List (List UInt8)) (L:=fun n i q=>za8_ k n (m+i) i q fun k_6 q_7=>some ((k_6,()),(q_7,()),()))
   (I:=fun pre q=>q.length=a.length∧q.take pre.length=(List.range pre.length).map T) (G:=fun _ _=>some ((m+a.length,()),((List.range a.length).map T,()),())) (List.range a.length) ?_ ?_ k (by have:=zg_; simp; omega) a ⟨rfl,by simp⟩
  ·simpa using this
  ·intro n pre x post q hx hq ih hg hlt
   rw [List.length_range] at hlt
   have hw:=zf_ (i:=pre.length) (by omega)
   have hl:pre.length<q.length:=by omega
   have hm:z0_ (m+(pre.length:Int)+1)=m+((pre.length+1:Nat):Int):=by rw [w_id (by omega) (by omega)]; omega
   have hlt':(pre.length:Int)<(q.length:Int):=by omega
   simp only [za8_,hlt',decide_true,if_true,hT pre.length (by omega),Option.bind_some,Int.natCast_nonneg,Int.toNat_natCast,hl,and_self,List.getElem?_eq_getElem hl,hm,hw]
   refine ih _ ⟨by rw [List.length_set]; exact hq.1,?_⟩
   rw [List.length_append,List.length_singleton,List.take_succ_eq_append_getElem (by simpa using hl),List.getElem_set_self,List.take_set_of_le (Nat.le_refl _),hq.2,List.range_succ]
   simp
  ·intro n q hq
   have:¬ ((List.range a.length).length:Int)<(q.length:Int):=by rw [hq.1]; simp
   have h2:=hq.2
   rw [List.length_range,← hq.1,List.take_length,hq.1] at h2
   simp only [za8_,this,decide_false,Bool.false_eq_true,if_false]
   simp [h2]
 ·unfold zcx_
  have:=z1h_ (α:=List UInt8) (A:=Unit) (L:=fun n i _=>za9_ k n ((List.range a.length).map T) (m+i) i fun k_3=>some k_3) (I:=fun _ _=>True) (G:=fun _ _=>some (m+a.length)) ((List.range a.length).map T) ?_ ?_ k (by have:=zg_; simp; omega) () trivial
  ·simpa using this
  ·intro n pre x post _ hx _ ih hg hlt
   rw [List.length_map,List.length_range] at hlt
   have hw:=zf_ (i:=pre.length) (by omega)
   have hm:z0_ (m+(pre.length:Int)+1)=m+((pre.length+1:Nat):Int):=by rw [w_id (by omega) (by omega)]; omega
   have hxT:x=T pre.length:=by
    rw [List.getElem?_map,List.getElem?_range (by omega)] at hg
    simpa using hg.symm
   have hlt':(pre.length:Int)<(((List.range a.length).map T).length:Int):=by simp; omega
   simp only [za9_,hlt',decide_true,if_true,Int.natCast_nonneg,Int.toNat_natCast,hg,Option.bind_some,hT pre.length (by omega),hxT,Bool.not_true,Bool.false_eq_true,if_false,hm,hw]
   exact ih () trivial
  ·intro n _ _
   simp [za9_]
theorem z1eh_ {k:Nat} (hk:KK≤k) {a b:List (List UInt8)} (ha:a.length<4611686018427387904):zaa_ k a b=some (decide (a=b)):=by
 unfold zaa_
 by_cases hl:a.length=b.length
 ·rw [if_neg (by simp [hl])]
  refine zcs_ (L:=fun n i=>zbg_ k n a b i (some true)) a b hl ?_ ?_ (n:=k) (by have:=zg_; omega)
  ·intro n i x y hx hy hlt
   have hw:=zf_ (i:=i) (by omega)
   by_cases e:x=y <;> simp [zbg_,hlt,hx,hy,hw,e]
  ·intro n
   simp [zbg_]
 ·have h2:a≠b:=fun e=>hl (by rw [e])
  have h3:¬ (a.length:Int)=b.length:=by omega
  simp [h3,h2]
theorem z1ei_ {e0 e1 e2 e3 e4:TypeId} (a0:She) (h0:InR (.st (.pr (.st (.sl e0 (.sl e1 (.int .i64)))) (.pr (.int .i64) (.pr (.sl e2 (.int .i64)) (.sl e3 (.st (.pr (.int .i64) (.pr (.int .i64) (.pr (.int .i64) (.sl e4 (.int .i64))))))))))) a0):∃ k:Nat,zgc_ k a0=some true:=by
 have hk:=Nat.le_refl KK
 refine ⟨KK,?_⟩
 have q0:=z1e3_ hk (a:=a0) (left:=1048576) (by omega) (by omega) h0
 unfold zgc_
 rw [q0]
 by_cases c0:(z2r_ a0:Int)≤1048576
 case neg=>rw [if_neg c0]; simp only [Option.bind_some]; rw [decide_eq_true (by omega),if_pos rfl]
 rw [if_pos c0]; simp only [Option.bind_some]
 rw [decide_eq_false (by omega),if_neg (by simp)]
 have b0:z2r_ a0≤10000000000:=by omega
 have hs:=z1e4_ (s:=a0) (by omega)
 obtain ⟨r,hs,hi,hl⟩:=z1dq_ (Nat.le_refl KK) hs
 have e:z2r_ a0=z26_ a0.1+a0.2.2.1.length+z27_ a0.2.2.2:=rfl
 have e1:z26_ a0.1=a0.1.length+sumL List.length a0.1:=rfl
 have e3:z27_ a0.2.2.2=a0.2.2.2.length+sumL z1j_ a0.2.2.2:=rfl
 have c3:sumL ctM a0.2.2.2≤sumL z1j_ a0.2.2.2+3*a0.2.2.2.length:=z10u_ fun x _=>by
  have a:ctM x=x.2.2.2.length+3:=rfl
  have b:z1j_ x=x.2.2.2.length:=rfl
  omega
 have m1:=z1du_ hk (L:=a0.1) (m:=1) (by omega) (by omega) (fun x hx=>by have:=z7b_ List.length hx; omega) (by omega)
 have m2:=z1dv_ hk (a:=a0.2.2.1) (m:=1+(sumL List.length a0.1:Int)) (by omega) (by omega) (by omega)
 have m3:=z1dy_ hk (L:=a0.2.2.2) (m:=1+(sumL List.length a0.1:Int)+(a0.2.2.1.length:Int)) (by omega) (by omega) (fun x hx=>by have:=z7b_ z1j_ hx; have b:z1j_ x=x.2.2.2.length:=rfl; omega) (by omega)
 have hmn:¬ (1+(sumL List.length a0.1:Int)+(a0.2.2.1.length:Int)+(sumL ctM a0.2.2.2:Int)<0):=by omega
 obtain ⟨q2,hq2,hh2⟩:=z1eg_ hk (a:=r.1) (m:=1) (by omega) (by omega) (by omega)
 have hmn2:¬ (1+(r.1.length:Int)<0):=by omega
 unfold zmo_ zmp_
 simp only [z1e9_ hk b0,Option.bind_some,z1ef_,hs,hi,z1ee_ hk b0,z1eh_ hk (show r.1.length<4611686018427387904 by omega),m1,m2,m3,hmn,hq2,hh2,hmn2,decide_true,Bool.not_true,Bool.false_eq_true,if_false,decide_false]
end Go.Proofs.YthpamdpneanlpaaGreatDoor.Ev
