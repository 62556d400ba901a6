/- Plain laws of the printed functions. No conditions but those in each statement. -/
import Derived.Test.YtbfbojmkmjhdcaaGreatDoorEv5
import Derived.Test.YtbfbojmkmjhdcaaGreatDoorG13
set_option linter.unusedVariables false
set_option linter.unusedSimpArgs false
namespace Go.Proofs.YtbfbojmkmjhdcaaGreatDoor.Ev
open Go.RowKit
theorem z45_ (n a b:Int):z2d_ n a b=some (decide (a≤n∧n≤b)):=by
 unfold z2d_
 by_cases h:a≤n <;> simp [h]
theorem z4m_ (n a b:Int):z1o_ n a b=some (decide (a≤n∧n≤b)):=by
 unfold z1o_
 by_cases h:a≤n <;> simp [h]
def cI (x y:Int):Int:=if x<y then -1 else if y<x then 1 else 0
theorem zjj_ (x y:Int):z62_ x y=some (cI x y):=by
 unfold z62_ zfm_ cI
 by_cases h1:x<y
 ·simp [h1]
 ·by_cases h2:y<x <;> simp [h1,h2]
theorem ztf_ (x y:Int):zfl_ x y=some (cI x y):=by
 unfold zfl_ zfk_ cI
 by_cases h1:x<y
 ·simp [h1]
 ·by_cases h2:y<x <;> simp [h1,h2]
theorem zjk_ {k:Nat} (hk:KK≤k) (a b:Int):zb9_ k [a,b]=some (if a=0 then b else a):=by
 have hK:=zj_
 obtain ⟨m,rfl⟩:∃ m,k=m+3:=⟨k-3,by omega⟩
 generalize hf:m+3=k
 have hw0:z0_ 1=1:=w_id (by omega) (by omega)
 have hw1:z0_ 2=2:=w_id (by omega) (by omega)
 show z7c_ k k 0 [a,b] 2 0 (fun zero_2=>some zero_2)=_
 conv=>lhs; arg 2; rw [← hf]
 by_cases h:a=0
 ·by_cases h':b=0
  ·subst h; subst h'; simp [z7c_,hw0,hw1]
  ·subst h; simp [z7c_,hw0,hw1,h']
 ·simp [z7c_,h]
abbrev Edg:=Int×Int×Int
def z7i_ (a b:Edg):Bool:=decide (a.1<b.1∨(a.1=b.1∧a.2.1<b.2.1))
def za1_ (l:List Edg) (i:Nat) (e:Edg):Bool:=if 0<i then (match l[i-1]? with | some z=>z7i_ z e | none=>false) else true
theorem znp_ (a b:Edg):decide (0≤(if cI a.1 b.1=0 then cI a.2.1 b.2.1 else cI a.1 b.1))=!z7i_ a b:=by
 unfold z7i_ cI
 rw [← decide_not]
 refine decide_eq_decide.2 ?_
 by_cases h1:a.1<b.1
 ·simp [h1]
 ·by_cases h2:b.1<a.1
  ·have:¬ a.1=b.1:=by omega
   simp [h1,h2,this]
  ·have e:a.1=b.1:=by omega
   by_cases h3:a.2.1<b.2.1
   ·simp [e,h3]
   ·by_cases h4:b.2.1<a.2.1 <;> simp [e,h3,h4]
abbrev Pha:=Int×Int×List Edg
def z4n_ (x:Pha) (i:Nat):Bool:=match x.2.2[i]? with
 | some a=>!decide (a.1<0)&&(!decide (a.2.1≤a.1)&&(!decide (x.1≤a.2.1)&&(decide (0≤a.2.2∧a.2.2≤z0_ (x.2.1-1))&&za1_ x.2.2 i a)))
 | none=>false
def z1x_ (x:Pha):Bool:=decide (1≤x.1∧x.1≤12)&&(decide (2≤x.2.1∧x.2.1≤360)&&((List.range x.2.2.length).all (z4n_ x)&&decide (x.2.2.length≤24)))
theorem ztg_ {k:Nat} (hk:KK≤k) {x:Pha} (hn:x.2.2.length≤1048576):zf8_ k x=some (z1x_ x):=by
 have hK:=zj_
 have e2:decide ((x.2.2.length:Int)≤24)=decide (x.2.2.length≤24):=decide_eq_decide.2 (by omega)
 unfold zf8_ z1x_
 simp only [z4m_,Option.bind_some]
 by_cases c0:1≤x.1∧x.1≤12
 case neg=>simp [c0]
 by_cases c00:2≤x.2.1∧x.2.1≤360
 case neg=>simp [c0,c00]
 have hl:z5c_ k k x 0 (fun x_10=>some (decide ((List.length x_10.2.2:Int)≤24)))=if (List.range x.2.2.length).all (z4n_ x)=true then some (decide ((x.2.2.length:Int)≤24)) else some false:=by
  refine z3q_ (L:=fun m i=>z5c_ k m x i (fun x_10=>some (decide ((List.length x_10.2.2:Int)≤24)))) (b:=x.2.2.length) (p:=z4n_ x) (r:=some false) ?_ ?_ (n:=k) (by omega)
  ·intro m i hi
   have hlt:(i:Int)<(x.2.2.length:Int):=by omega
   have hw:=zi_ (i:=i) (by omega)
   have hg:x.2.2[i]?=some x.2.2[i]:=List.getElem?_eq_getElem hi
   have wn:z0_ (x.1-1)=x.1-1:=w_id (by omega) (by omega)
   simp only [z5c_,hlt,decide_true,if_true,Int.natCast_nonneg,Int.toNat_natCast,hg,Option.bind_some,hw,z4m_,z4n_,za1_,wn]
   generalize x.2.2[i]=a
   by_cases c1:0≤a.1∧a.1≤x.1-1
   case neg =>
    rw [decide_eq_false c1,if_pos (by simp),if_neg]
    intro h
    simp only [Bool.and_eq_true,Bool.not_eq_true',decide_eq_false_iff_not] at h
    omega
   have wa:z0_ (a.1+1)=a.1+1:=w_id (by omega) (by omega)
   rw [wa,decide_eq_true c1]
   simp only [Bool.not_true,Bool.false_eq_true,if_false]
   by_cases c2:a.1+1≤a.2.1∧a.2.1≤x.1-1
   case neg =>
    rw [decide_eq_false c2,if_pos (by simp),if_neg]
    intro h
    simp only [Bool.and_eq_true,Bool.not_eq_true',decide_eq_false_iff_not] at h
    omega
   rw [decide_eq_true c2,decide_eq_false (show ¬ a.1<0 by omega),decide_eq_false (show ¬ a.2.1≤a.1 by omega),decide_eq_false (show ¬ x.1≤a.2.1 by omega)]
   simp only [Bool.not_true,Bool.not_false,Bool.false_eq_true,if_false,Bool.true_and]
   by_cases c4:0≤a.2.2∧a.2.2≤z0_ (x.2.1-1)
   case neg=>simp [c4]
   rw [decide_eq_true c4]
   simp only [Bool.not_true,Bool.not_false,Bool.false_eq_true,if_false,Bool.true_and]
   by_cases h0:0<i
   ·have h0':(0:Int)<(i:Int):=by omega
    have hw1:z0_ ((i:Int)-1)=((i-1:Nat):Int):=by rw [w_id (by omega) (by omega)]; omega
    have hg1:x.2.2[i-1]?=some x.2.2[i-1]:=List.getElem?_eq_getElem (by omega)
    simp only [h0',h0,decide_true,if_true,hw1,Int.natCast_nonneg,Int.toNat_natCast,hg1,Option.bind_some]
    generalize x.2.2[i-1]=t
    unfold z7i_
    by_cases d1:a.1<t.1
    ·have:¬ (t.1<a.1∨t.1=a.1∧t.2.1<a.2.1):=by omega
     rw [decide_eq_true d1,if_pos rfl,decide_eq_false this,if_neg (by simp)]
    ·rw [decide_eq_false d1,if_neg (by simp)]
     by_cases d2:t.1=a.1
     ·rw [decide_eq_true d2,if_pos rfl]
      by_cases d3:a.2.1≤t.2.1
      ·have:¬ (t.1<a.1∨t.1=a.1∧t.2.1<a.2.1):=by omega
       rw [decide_eq_true d3,if_pos rfl,decide_eq_false this,if_neg (by simp)]
      ·have:(t.1<a.1∨t.1=a.1∧t.2.1<a.2.1):=by omega
       rw [decide_eq_false d3,if_neg (by simp),decide_eq_true this,if_pos rfl]
     ·have:(t.1<a.1∨t.1=a.1∧t.2.1<a.2.1):=by omega
      rw [decide_eq_false d2,if_neg (by simp),decide_eq_true this,if_pos rfl]
   ·have h0':¬ (0:Int)<(i:Int):=by omega
    simp [h0,h0']
  ·intro m
   simp only [z5c_,Int.lt_irrefl,decide_false,Bool.false_eq_true,if_false]
 rw [hl,e2,decide_eq_true c0,decide_eq_true c00]
 cases (List.range x.2.2.length).all (z4n_ x) <;> simp
theorem zth_ {k:Nat} (hk:KK≤k) {x:Pha} (hn:x.2.2.length≤1048576):ze6_ k x=some (z1x_ x):=by
 have hK:=zj_
 have e2:decide ((x.2.2.length:Int)≤24)=decide (x.2.2.length≤24):=decide_eq_decide.2 (by omega)
 have hE:((z2d_ x.1 1 12).bind fun r_9=>(if r_9=true then (z2d_ x.2.1 2 360).bind fun r_10=>(if r_10=true then some (decide ((List.length x.2.2:Int)≤24)) else some false) else some false))=some (decide (1≤x.1∧x.1≤12)&&(decide (2≤x.2.1∧x.2.1≤360)&&decide (x.2.2.length≤24))):=by
  simp only [z45_,Option.bind_some,e2]
  by_cases c1:1≤x.1∧x.1≤12
  case neg=>simp [c1]
  by_cases c2:2≤x.2.1∧x.2.1≤360
  case neg=>simp [c1,c2]
  simp [c1,c2]
 unfold ze6_
 have hl:∀ E:Pha→Option Bool,z63_ k k x.2.2 (x.2.2.length:Int) 0 x E=if (List.range x.2.2.length).all (z4n_ x)=true then E x else some false:=by
  intro E
  refine z3q_ (L:=fun m i=>z63_ k m x.2.2 (x.2.2.length:Int) i x E) (b:=x.2.2.length) (p:=z4n_ x) (r:=some false) ?_ ?_ (n:=k) (by omega)
  ·intro m i hi
   have hlt:(i:Int)<(x.2.2.length:Int):=by omega
   have hw:=zi_ (i:=i) (by omega)
   have hg:x.2.2[i]?=some x.2.2[i]:=List.getElem?_eq_getElem hi
   simp only [z63_,z3k_,hlt,decide_true,if_true,Int.natCast_nonneg,Int.toNat_natCast,hg,Option.bind_some,hw,z45_,z4n_,za1_]
   generalize x.2.2[i]=a
   by_cases c1:a.1<0
   case pos=>simp [c1]
   by_cases c2:a.2.1≤a.1
   case pos=>simp [c1,c2]
   by_cases c3:x.1≤a.2.1
   case pos=>simp [c1,c2,c3]
   by_cases c4:0≤a.2.2∧a.2.2≤z0_ (x.2.1-1)
   case neg=>simp [c1,c2,c3,c4]
   rw [decide_eq_false c1,decide_eq_false c2,decide_eq_false c3,decide_eq_true c4]
   simp only [Bool.not_true,Bool.not_false,Bool.false_eq_true,if_false,Bool.true_and]
   by_cases h0:0<i
   ·have h0':(0:Int)<(i:Int):=by omega
    have hw1:z0_ ((i:Int)-1)=((i-1:Nat):Int):=by rw [w_id (by omega) (by omega)]; omega
    have hg1:x.2.2[i-1]?=some x.2.2[i-1]:=List.getElem?_eq_getElem (by omega)
    simp only [h0',h0,decide_true,if_true,hw1,Int.natCast_nonneg,Int.toNat_natCast,hg1,Option.bind_some,zjj_,zjk_ hk,znp_]
    generalize x.2.2[i-1]=t
    cases z7i_ t a <;> simp
   ·have h0':¬ (0:Int)<(i:Int):=by omega
    simp [h0,h0']
  ·intro m
   simp only [z63_,Int.lt_irrefl,decide_false,Bool.false_eq_true,if_false]
 rw [hl,hE]
 unfold z1x_
 cases (List.range x.2.2.length).all (z4n_ x) <;> simp
theorem zbm_ {α:Type} (p:α→Bool) (xs:List α):decide (0≤idxP p xs)=xs.any p:=by
 unfold idxP
 cases h:xs.findIdx? p with
 | some i =>
  obtain ⟨hlt,hp,_⟩:=List.findIdx?_eq_some_iff_getElem.1 h
  have:xs.any p=true:=List.any_eq_true.2 ⟨_,List.getElem_mem hlt,hp⟩
  rw [this]; simp
 | none =>
  rw [List.findIdx?_eq_none_iff] at h
  have:xs.any p=false:=List.any_eq_false.2 fun x hx=>by rw [h x hx]; simp
  rw [this]; simp
theorem zjl_ {α:Type} {R:α→α→Prop} (tr:∀ a b c,R a b→R b c→R a c):∀ {l:List α},(∀ (i:Nat) (a b:α),l[i]?=some a→l[i+1]?=some b→R a b)→l.Pairwise R
 | [],_=>List.Pairwise.nil
 | [a],_=>List.pairwise_singleton ..
 | a::b::l,h=>by
  have h0:=h 0 a b rfl rfl
  have ih:=zjl_ tr (l:=b::l) (fun i x y hx hy=>h (i+1) x y hx hy)
  refine List.Pairwise.cons (fun x hx=>?_) ih
  rcases List.mem_cons.1 hx with rfl | hx
  ·exact h0
  ·exact tr _ _ _ h0 ((List.pairwise_cons.1 ih).1 x hx)
theorem znq_ {α:Type} {R:α→α→Prop} {l:List α} (h:l.Pairwise R) {i:Nat} {a b:α} (ha:l[i]?=some a) (hb:l[i+1]?=some b):R a b:=by
 obtain ⟨h1,rfl⟩:=List.getElem?_eq_some_iff.1 ha
 obtain ⟨h2,rfl⟩:=List.getElem?_eq_some_iff.1 hb
 exact List.pairwise_iff_getElem.1 h i (i+1) h1 h2 (by omega)
def z46_ {α:Type} (R:α→α→Prop) (l:List α) (i:Nat) (x:α):Prop:=0<i→∀ t,l[i-1]?=some t→R t x
theorem zfu_ {α:Type} {R:α→α→Prop} (tr:∀ a b c,R a b→R b c→R a c) {l:List α} {m:Nat} (h:∀ j,j<m→∀ x,l[j]?=some x→z46_ R l j x):(l.take m).Pairwise R:=by
 refine zjl_ tr fun i a b ha hb=>?_
 have hi:i+1<m:=by
  have:=(List.getElem?_eq_some_iff.1 hb).1
  rw [List.length_take] at this; omega
 rw [List.getElem?_take_of_lt (by omega)] at ha
 rw [List.getElem?_take_of_lt hi] at hb
 exact h (i+1) hi b hb (by omega) a (by simpa using ha)
theorem zjm_ {α:Type} {R:α→α→Prop} {l:List α} (h:l.Pairwise R) {i:Nat} {x:α} (hx:l[i]?=some x):z46_ R l i x:=fun h0 t ht=>by
 have e:i=(i-1)+1:=by omega
 rw [e] at hx
 exact znq_ h ht hx
theorem zti_ {R:Type} {L:Nat→Int→R} {b:Nat} {p:Nat→Bool} {r e:R}
  (h1:∀ n (i:Nat),i<b→(∀ j,j<i→p j=true)→L (n+1) (i:Int)=if p i=true then L n ((i+1:Nat):Int) else r) (h2:∀ n,L (n+1) (b:Int)=e) {n:Nat} (hn:b<n):L n 0=if (List.range b).all p=true then e else r:=by
 refine z2c_ (α:=Nat) (A:=Unit) (L:=fun n i _=>L n i) (I:=fun pre _=>∀ j∈pre,p j=true) (G:=fun l _=>if l.all p=true then e else r) (List.range b) ?_ ?_ n (by simpa using hn) () (by simp)
 ·intro n pre x post _ hx hI ih hg hlt
  rw [List.length_range] at hlt
  have hxi:x=pre.length:=by
   rw [List.getElem?_range (by omega)] at hg
   simpa using hg.symm
  subst hxi
  have hpre:pre=List.range pre.length:=by
   have:=congrArg (List.take pre.length) hx
   rw [List.take_left,List.take_range] at this
   rw [Nat.min_eq_left (by omega)] at this
   exact this.symm
  rw [h1 n pre.length (by omega) (fun j hj=>hI j (by rw [hpre]; simpa using hj))]
  by_cases hp:p pre.length=true
  ·rw [if_pos hp,ih () (fun j hj=>by
    rcases List.mem_append.1 hj with hj | hj
    ·exact hI j hj
    ·rw [List.mem_singleton.1 hj]; exact hp)]
   simp [hp]
  ·rw [if_neg hp]; simp [hp]
 ·intro n _ _
  simpa using h2 n
structure SimpP (s:List Int):Prop where
 len1:1≤s.length
 len4:s.length≤4
 vert:∀ x∈s,0≤x∧x≤9
 rise:s.Pairwise (fun a b:Int=>a<b)
open Classical in
noncomputable def z67_ (s:List Int):Bool:=decide (SimpP s)
theorem z68_ {s:List Int}:z67_ s=true↔SimpP s:=by unfold z67_; simp
open Classical in
theorem ztj_ {k:Nat} (hk:KK≤k) {s:List Int} (hs:s.length≤1000000000) (lo up:Int):zbd_ k s lo up=some (decide ((∀ x∈s,lo≤x∧x≤up)∧s.Pairwise (fun a b:Int=>a<b))):=by
 have hK:=zj_
 unfold zbd_
 have:=z3q_ (L:=fun n i=>z72_ k n s lo up i (some true)) (b:=s.length) (p:=fun i=>decide (∀ x,s[i]?=some x→(lo≤x∧x≤up)∧z46_ (fun a b:Int=>a<b) s i x)) (r:=some false) (e:=some true) ?_ ?_ (n:=k) (by omega)
 ·rw [this]
  have e:((List.range s.length).all (fun i=>decide (∀ x,s[i]?=some x→(lo≤x∧x≤up)∧z46_ (fun a b:Int=>a<b) s i x))=true)↔((∀ x∈s,lo≤x∧x≤up)∧s.Pairwise (fun a b:Int=>a<b)):=by
   simp only [List.all_eq_true,List.mem_range,decide_eq_true_eq]
   constructor
   ·intro h
    refine ⟨fun x hx=>?_,?_⟩
    ·obtain ⟨i,hi,rfl⟩:=List.getElem_of_mem hx
     exact (h i hi _ (List.getElem?_eq_getElem hi)).1
    ·have:=zfu_ (R:=fun a b:Int=>a<b) (fun a b c=>Int.lt_trans) (l:=s) (m:=s.length) (fun j hj x hx=>(h j hj x hx).2)
     rwa [List.take_length] at this
   ·rintro ⟨h1,h2⟩ i hi x hx
    exact ⟨h1 x (List.mem_of_getElem? hx),zjm_ h2 hx⟩
  by_cases c:((∀ x∈s,lo≤x∧x≤up)∧s.Pairwise (fun a b:Int=>a<b))
  ·rw [if_pos (e.2 c),decide_eq_true c]
  ·rw [if_neg (fun h=>c (e.1 h)),decide_eq_false c]
 ·intro n i hi
  have hlt:(i:Int)<(s.length:Int):=by omega
  have hw:=zi_ (i:=i) (by omega)
  have hg:s[i]?=some s[i]:=List.getElem?_eq_getElem hi
  simp only [z72_,hlt,decide_true,if_true,Int.natCast_nonneg,Int.toNat_natCast,hg,Option.bind_some,hw,z4m_,Option.some.injEq,forall_eq']
  by_cases c1:lo≤s[i]∧s[i]≤up
  ·rw [decide_eq_true c1]
   simp only [Bool.not_true,Bool.false_eq_true,if_false]
   by_cases h0:0<i
   ·have h0':(0:Int)<(i:Int):=by omega
    have hw1:z0_ ((i:Int)-1)=((i-1:Nat):Int):=by rw [w_id (by omega) (by omega)]; omega
    have hg1:s[i-1]?=some s[i-1]:=List.getElem?_eq_getElem (by omega)
    simp only [h0',decide_true,if_true,hw1,Int.natCast_nonneg,Int.toNat_natCast,hg1,Option.bind_some]
    by_cases c2:s[i-1]<s[i]
    ·have:z46_ (fun a b:Int=>a<b) s i s[i]:=fun _ t ht=>by rw [hg1] at ht; cases ht; exact c2
     rw [if_neg (by simp; omega),if_pos (decide_eq_true ⟨c1,this⟩)]
    ·have:¬ z46_ (fun a b:Int=>a<b) s i s[i]:=fun h=>c2 (h h0 _ hg1)
     rw [if_pos (decide_eq_true (by omega)),if_neg (fun h=>this (of_decide_eq_true h).2)]
   ·have h0':¬ (0:Int)<(i:Int):=by omega
    have:z46_ (fun a b:Int=>a<b) s i s[i]:=fun h=>absurd h h0
    rw [decide_eq_false h0',if_neg (by simp),if_pos (decide_eq_true ⟨c1,this⟩)]
  ·rw [decide_eq_false c1,if_pos (by simp),if_neg (fun h=>c1 (of_decide_eq_true h).1)]
 ·intro n
  simp only [z72_,Int.lt_irrefl,decide_false,Bool.false_eq_true,if_false]
open Classical in
theorem ztk_ {k:Nat} (hk:KK≤k) {s:List Int} (hs:s.length≤1000000000):zez_ k s=some (z67_ s):=by
 unfold zez_
 rw [z4m_]
 simp only [Option.bind_some,ztj_ hk hs]
 by_cases c:(1:Int)≤(s.length:Int)∧(s.length:Int)≤4
 ·rw [decide_eq_true c,if_pos rfl]
  congr 1
  unfold z67_
  refine decide_eq_decide.2 ⟨fun h=>⟨by omega,by omega,h.1,h.2⟩,fun h=>⟨h.vert,h.rise⟩⟩
 ·rw [decide_eq_false c,if_neg (by simp)]
  congr 1
  unfold z67_
  rw [decide_eq_false (fun h:SimpP s=>c ⟨by have:=h.len1; omega,by have:=h.len4; omega⟩)]
open Classical in
theorem ztl_ {k:Nat} (hk:KK≤k) {s:List Int} (hs:s.length≤1000000000):zfh_ k s=some (decide (s.Pairwise (fun a b:Int=>a<b))):=by
 have hK:=zj_
 unfold zfh_
 have key:∀ (d n i:Nat),s.length-i=d→d<n→0<i→(s.take i).Pairwise (fun a b:Int=>a<b)→z9r_ k n s (i:Int) (some true)=some (decide (s.Pairwise (fun a b:Int=>a<b))):=by
  intro d
  induction d with
  | zero =>
   intro n i hd hn h0 hp
   obtain ⟨n,rfl⟩:∃ m,n=m+1:=⟨n-1,by omega⟩
   have:¬ (i:Int)<(s.length:Int):=by omega
   rw [List.take_of_length_le (by omega)] at hp
   simp only [z9r_,this,decide_false,Bool.false_eq_true,if_false,decide_eq_true hp]
  | succ d ih =>
   intro n i hd hn h0 hp
   obtain ⟨n,rfl⟩:∃ m,n=m+1:=⟨n-1,by omega⟩
   have hi:i<s.length:=by omega
   have hlt:(i:Int)<(s.length:Int):=by omega
   have hw:=zi_ (i:=i) (by omega)
   have hw1:z0_ ((i:Int)-1)=((i-1:Nat):Int):=by rw [w_id (by omega) (by omega)]; omega
   have hg:s[i]?=some s[i]:=List.getElem?_eq_getElem hi
   have hg1:s[i-1]?=some s[i-1]:=List.getElem?_eq_getElem (by omega)
   simp only [z9r_,hlt,decide_true,if_true,Int.natCast_nonneg,Int.toNat_natCast,hg,hg1,Option.bind_some,hw,hw1]
   by_cases c:s[i-1]<s[i]
   ·rw [decide_eq_false (show ¬ s[i]≤s[i-1] by omega),if_neg (by simp)]
    refine ih n (i+1) (by omega) (by omega) (by omega) ?_
    refine zjl_ (R:=fun a b:Int=>a<b) (fun a b c=>Int.lt_trans) fun j a b ha hb=>?_
    have hj:j+1<i+1:=by
     have:=(List.getElem?_eq_some_iff.1 hb).1
     rw [List.length_take] at this; omega
    rw [List.getElem?_take_of_lt (by omega)] at ha
    rw [List.getElem?_take_of_lt hj] at hb
    by_cases hji:j+1=i
    ·have e1:a=s[i-1]:=by
      have:s[j]?=s[i-1]?:=by rw [show j=i-1 by omega]
      rw [ha,hg1] at this
      exact Option.some.inj this
     have e2:b=s[i]:=by
      rw [hji,hg] at hb
      exact (Option.some.inj hb).symm
     rw [e1,e2]; exact c
    ·exact znq_ hp (i:=j) (by rw [List.getElem?_take_of_lt (by omega)]; exact ha) (by rw [List.getElem?_take_of_lt (by omega)]; exact hb)
   ·rw [decide_eq_true (show s[i]≤s[i-1] by omega),if_pos rfl]
    congr 1
    refine (decide_eq_false fun h=>c ?_).symm
    exact List.pairwise_iff_getElem.1 h (i-1) i (by omega) hi (by omega)
 have h1:=key (s.length-1) k 1 rfl (by omega) (by omega) (by cases s with
  | nil=>simp
  | cons a l=>simp)
 exact h1
theorem ztm_ {k:Nat} (hk:KK≤k) {s:List Int} (hs:s.length≤1000000000):zfi_ k s ()=some (s.any fun x=>!decide (0≤x∧x≤9)):=by
 have hK:=zj_
 unfold zfi_ zjc_
 rw [z8f_ (L:=fun n i=>z9s_ k n s () (s.length:Int) i (some (-1))) (p:=fun x=>!decide (0≤x∧x≤9)) s ?_ ?_ (n:=k) (by omega)]
 ·rw [Option.bind_some,zbm_]
 ·intro n i x hi hlt
  have hw:=zi_ (i:=i) (by omega)
  simp only [z9s_,zjb_,zja_,z45_,hlt,decide_true,if_true,Int.natCast_nonneg,Int.toNat_natCast,hi,Option.bind_some,hw]
 ·intro n
  simp [z9s_]
theorem ztn_ {k:Nat} (hk:KK≤k) {s:List Int} (hs:s.length≤1000000000):zfj_ k s=some (z67_ s):=by
 unfold zfj_
 by_cases c1:1≤s.length
 ·rw [decide_eq_true (show (1:Int)≤(s.length:Int) by omega),if_pos rfl]
  by_cases c2:s.length≤4
  ·rw [decide_eq_true (show (s.length:Int)≤4 by omega),if_pos rfl,ztl_ hk hs,ztm_ hk hs]
   simp only [Option.bind_some]
   by_cases c3:s.Pairwise (fun a b:Int=>a<b)
   ·rw [decide_eq_true c3,if_pos rfl]
    congr 1
    rw [Bool.eq_iff_iff,z68_]
    simp only [Bool.not_eq_true',List.any_eq_false,Bool.not_eq_true,decide_eq_false_iff_not,Bool.not_eq_false',decide_eq_true_eq]
    exact ⟨fun h=>⟨c1,c2,fun x hx=>by simpa using h x hx,c3⟩,fun h x hx=>by simpa using h.vert x hx⟩
   ·rw [decide_eq_false c3,if_neg (by simp)]
    congr 1
    symm
    rw [Bool.eq_false_iff,ne_eq,z68_]
    exact fun h=>c3 h.rise
  ·rw [decide_eq_false (show ¬ (s.length:Int)≤4 by omega),if_neg (by simp)]
   congr 1
   symm
   rw [Bool.eq_false_iff,ne_eq,z68_]
   exact fun h=>c2 h.len4
 ·rw [decide_eq_false (show ¬ (1:Int)≤(s.length:Int) by omega),if_neg (by simp)]
  congr 1
  symm
  rw [Bool.eq_false_iff,ne_eq,z68_]
  exact fun h=>c1 h.len1
def lexB:List Int→List Int→Bool
 | x::a,y::b=>if x=y then lexB a b else decide (x<y)
 | _,_=>false
def befS (a b:List Int):Bool:=decide (a.length<b.length)||(decide (a.length=b.length)&&lexB a b)
theorem znr_:∀ a:List Int,lexB a a=false
 | []=>rfl
 | x::a=>by simp [lexB,znr_ a]
theorem zns_:∀ a b c:List Int,a.length=b.length→b.length=c.length→lexB a b=true→lexB b c=true→lexB a c=true
 | [],_,_,_,_,h,_=>by simp [lexB] at h
 | _::_,[],_,_,_,h,_=>by simp [lexB] at h
 | _::_,_::_,[],_,_,_,h=>by simp [lexB] at h
 | x::a,y::b,z::c,h1,h2,h3,h4=>by
  simp only [lexB] at h3 h4 ⊢
  by_cases c1:x=y
  ·subst c1
   rw [if_pos rfl] at h3
   by_cases c2:x=z
   ·rw [if_pos c2] at h4 ⊢
    exact zns_ a b c (by simpa using h1) (by simpa using h2) h3 h4
   ·rw [if_neg c2] at h4 ⊢; exact h4
  ·rw [if_neg c1,decide_eq_true_eq] at h3
   by_cases c2:y=z
   ·subst c2; rw [if_neg c1,decide_eq_true_eq]; exact h3
   ·rw [if_neg c2,decide_eq_true_eq] at h4
    rw [if_neg (by omega),decide_eq_true_eq]; omega
theorem zfv_ (a:List Int):befS a a=false:=by unfold befS; simp [znr_]
theorem zbn_ {a b c:List Int} (h1:befS a b=true) (h2:befS b c=true):befS a c=true:=by
 unfold befS at *
 simp only [Bool.or_eq_true,Bool.and_eq_true,decide_eq_true_eq] at *
 rcases h1 with h1 | ⟨e1,h1⟩
 ·rcases h2 with h2 | ⟨e2,h2⟩
  ·left; omega
  ·left; omega
 ·rcases h2 with h2 | ⟨e2,h2⟩
  ·left; omega
  ·exact .inr ⟨by omega,zns_ a b c e1 e2 h1 h2⟩
theorem zto_ {a b:List Int} (h:befS a b=true):befS b a=false:=by
 cases h':befS b a
 ·rfl
 ·have:=zbn_ h h'
  rw [zfv_] at this; cases this
def cmpL:List Int→List Int→Int
 | x::a,y::b=>if cI x y=0 then cmpL a b else cI x y
 | _::_,[]=>1
 | [],_::_ => -1
 | [],[]=>0
def z4o_ (a b:List Int):Int:=if cI (a.length:Int) (b.length:Int)=0 then cmpL a b else cI (a.length:Int) (b.length:Int)
theorem z7j_ (x y:Int):cI x y=0↔x=y:=by
 unfold cI
 by_cases h1:x<y
 ·rw [if_pos h1]; constructor <;> intro h <;> omega
 ·rw [if_neg h1]
  by_cases h2:y<x
  ·rw [if_pos h2]; constructor <;> intro h <;> omega
  ·rw [if_neg h2]; constructor <;> intro h <;> omega
theorem znt_ (x y:Int):cI x y<0↔x<y:=by
 unfold cI
 by_cases h1:x<y
 ·rw [if_pos h1]; constructor <;> intro h <;> omega
 ·rw [if_neg h1]
  by_cases h2:y<x
  ·rw [if_pos h2]; constructor <;> intro h <;> omega
  ·rw [if_neg h2]; constructor <;> intro h <;> omega
theorem znu_:∀ a b:List Int,cmpL a b=0↔a=b
 | [],[]=>by simp [cmpL]
 | _::_,[]=>by simp [cmpL]
 | [],_::_=>by simp [cmpL]
 | x::a,y::b=>by
  unfold cmpL
  by_cases c:cI x y=0
  ·rw [if_pos c,znu_ a b,(z7j_ x y).1 c]; simp
  ·rw [if_neg c]
   have:x≠y:=fun e=>c ((z7j_ x y).2 e)
   simp [c,this]
theorem znv_:∀ a b:List Int,a.length=b.length→(cmpL a b<0↔lexB a b=true)
 | [],[],_=>by simp [cmpL,lexB]
 | _::_,[],h=>by simp at h
 | [],_::_,h=>by simp at h
 | x::a,y::b,h=>by
  unfold cmpL lexB
  by_cases c:cI x y=0
  ·rw [if_pos c,if_pos ((z7j_ x y).1 c)]
   exact znv_ a b (by simpa using h)
  ·rw [if_neg c,if_neg (fun e=>c ((z7j_ x y).2 e)),znt_,decide_eq_true_eq]
theorem znw_ (a b:List Int):z4o_ a b=0↔a=b:=by
 unfold z4o_
 by_cases c:cI (a.length:Int) (b.length:Int)=0
 ·rw [if_pos c]; exact znu_ a b
 ·rw [if_neg c]
  exact ⟨fun h=>absurd h c,fun h=>by rw [h] at c; exact absurd ((z7j_ _ _).2 rfl) c⟩
theorem znx_ (a b:List Int):decide (z4o_ a b<0)=befS a b:=by
 rw [Bool.eq_iff_iff,decide_eq_true_eq]
 unfold z4o_ befS
 simp only [Bool.or_eq_true,Bool.and_eq_true,decide_eq_true_eq]
 by_cases c:cI (a.length:Int) (b.length:Int)=0
 ·have e:=(z7j_ _ _).1 c
  rw [if_pos c,znv_ a b (by omega)]
  constructor
  ·intro h; exact .inr ⟨by omega,h⟩
  ·rintro (h | h)
   ·omega
   ·exact h.2
 ·have e:¬ (a.length:Int)=(b.length:Int):=fun e=>c ((z7j_ _ _).2 e)
  rw [if_neg c,znt_]
  constructor
  ·intro h; left; omega
  ·rintro (h | h)
   ·omega
   ·omega
theorem ztp_ (a b:List Int):decide (0≤z4o_ a b)=!befS a b:=by
 rw [← znx_]
 by_cases h:z4o_ a b<0
 ·rw [decide_eq_true h,decide_eq_false (by omega)]; rfl
 ·rw [decide_eq_false h,decide_eq_true (by omega)]; rfl
theorem ztq_ {k:Nat} (hk:KK≤k) {a b:List Int} (ha:a.length≤1000000000) (hb:b.length≤1000000000):zfn_ k a b=some (cmpL a b):=by
 have hK:=zj_
 unfold zfn_
 have key:∀ (d n i:Nat),a.length-i=d→d<n→z9t_ k n a b a (a.length:Int) (i:Int) (fun s_4 s_5=>(if (decide ((List.length s_4:Int)<(List.length s_5:Int)))=true then some (-1) else some 0))=(if i≤a.length then some (if a.length≤i then (if i<b.length then -1 else 0) else cmpL (a.drop i) (b.drop i)) else some (if a.length<b.length then -1 else 0)):=by
  intro d
  induction d with
  | zero =>
   intro n i hd hn
   obtain ⟨n,rfl⟩:∃ m,n=m+1:=⟨n-1,by omega⟩
   have:¬ (i:Int)<(a.length:Int):=by omega
   simp only [z9t_,this,decide_false,Bool.false_eq_true,if_false]
   by_cases h1:i≤a.length
   ·have:i=a.length:=by omega
    subst this
    rw [if_pos (Nat.le_refl _),if_pos (Nat.le_refl _)]
    by_cases h2:a.length<b.length
    ·rw [decide_eq_true (by omega),if_pos rfl,if_pos h2]
    ·rw [decide_eq_false (by omega),if_neg (by simp),if_neg h2]
   ·rw [if_neg h1]
    by_cases h2:a.length<b.length
    ·rw [decide_eq_true (by omega),if_pos rfl,if_pos h2]
    ·rw [decide_eq_false (by omega),if_neg (by simp),if_neg h2]
  | succ d ih =>
   intro n i hd hn
   obtain ⟨n,rfl⟩:∃ m,n=m+1:=⟨n-1,by omega⟩
   have hi:i<a.length:=by omega
   have hlt:(i:Int)<(a.length:Int):=by omega
   have hw:=zi_ (i:=i) (by omega)
   have da:a.drop i=a[i]::a.drop (i+1):=List.drop_eq_getElem_cons hi
   rw [if_pos (by omega),if_neg (by omega),da]
   simp only [z9t_,hlt,decide_true,if_true,Int.natCast_nonneg,Int.toNat_natCast,List.getElem?_eq_getElem hi,Option.bind_some,hw]
   by_cases hb2:i<b.length
   ·have db:b.drop i=b[i]::b.drop (i+1):=List.drop_eq_getElem_cons hb2
    rw [db,decide_eq_false (by omega),if_neg (by simp),List.getElem?_eq_getElem hb2]
    simp only [Option.bind_some,zjj_]
    unfold cmpL
    by_cases c:cI a[i] b[i]=0
    ·rw [decide_eq_true c,if_neg (by simp),if_pos c,ih n (i+1) (by omega) (by omega),if_pos (by omega)]
     by_cases h3:a.length≤i+1
     ·rw [if_pos h3,List.drop_of_length_le (l:=a) (by omega)]
      by_cases h4:i+1<b.length
      ·rw [if_pos h4,List.drop_eq_getElem_cons h4]; rfl
      ·rw [if_neg h4,List.drop_of_length_le (l:=b) (by omega)]; rfl
     ·rw [if_neg h3]
    ·rw [decide_eq_false c,if_pos (by simp),if_neg c]
   ·rw [List.drop_of_length_le (l:=b) (by omega),decide_eq_true (by omega),if_pos rfl]
    rfl
 have h0:=key a.length k 0 (by omega) (by omega)
 have hz:((0:Nat):Int)=0:=rfl
 rw [hz] at h0
 rw [h0,if_pos (Nat.zero_le _),List.drop_zero,List.drop_zero]
 by_cases c:a.length≤0
 ·have:a=[]:=List.length_eq_zero_iff.1 (by omega)
  subst this
  rw [if_pos c]
  cases b with
  | nil=>rfl
  | cons y b=>rw [if_pos (by simp)]; rfl
 ·rw [if_neg c]
theorem zfw_ {k:Nat} (hk:KK≤k) {a b:List Int} (ha:a.length≤1000000000) (hb:b.length≤1000000000):z7d_ k a b=some (z4o_ a b):=by
 unfold z7d_ z4o_
 rw [ztf_,ztq_ hk ha hb]
 simp only [Option.bind_some,zjk_ hk]
theorem ztr_ {k:Nat} (hk:KK≤k) {a b:List Int} (ha:a.length≤1000000000):zf0_ k a b=some (befS a b):=by
 have hK:=zj_
 unfold zf0_ befS
 by_cases hl:a.length=b.length
 ·rw [decide_eq_true (show (a.length:Int)=(b.length:Int) by omega),if_neg (by simp),decide_eq_false (by omega),decide_eq_true hl,Bool.false_or,Bool.true_and]
  have key:∀ (d n i:Nat),a.length-i=d→d<n→z9b_ k n a b (i:Int) (some false)=some (lexB (a.drop i) (b.drop i)):=by
   intro d
   induction d with
   | zero =>
    intro n i hd hn
    obtain ⟨n,rfl⟩:∃ m,n=m+1:=⟨n-1,by omega⟩
    have:¬ (i:Int)<(a.length:Int):=by omega
    simp only [z9b_,this,decide_false,Bool.false_eq_true,if_false]
    rw [List.drop_of_length_le (l:=a) (by omega)]; rfl
   | succ d ih =>
    intro n i hd hn
    obtain ⟨n,rfl⟩:∃ m,n=m+1:=⟨n-1,by omega⟩
    have hi:i<a.length:=by omega
    have hib:i<b.length:=by omega
    have hlt:(i:Int)<(a.length:Int):=by omega
    have hw:=zi_ (i:=i) (by omega)
    have da:a.drop i=a[i]::a.drop (i+1):=List.drop_eq_getElem_cons hi
    have db:b.drop i=b[i]::b.drop (i+1):=List.drop_eq_getElem_cons hib
    rw [da,db]
    unfold lexB
    simp only [z9b_,hlt,decide_true,if_true,Int.natCast_nonneg,Int.toNat_natCast,List.getElem?_eq_getElem hi,List.getElem?_eq_getElem hib,Option.bind_some,hw]
    by_cases c:a[i]=b[i]
    ·rw [decide_eq_true c,if_neg (by simp),if_pos c]
     exact ih n (i+1) (by omega) (by omega)
    ·rw [decide_eq_false c,if_pos (by simp),if_neg c]
  exact key a.length k 0 (by omega) (by omega)
 ·rw [decide_eq_false (show ¬ (a.length:Int)=(b.length:Int) by omega),if_pos (by simp),decide_eq_false hl,Bool.false_and,Bool.or_false]
  exact congrArg some (decide_eq_decide.2 (by omega))
theorem zts_ {i j:Nat} (h:i+j<4611686018427387904):z0_ (Int.fdiv (z6u_ (z0_ ((i:Int)+(j:Int)))) (2 ^ 1))=(((i+j) / 2:Nat):Int):=by
 rw [w_id (x:=(i:Int)+j) (by omega) (by omega)]
 have hu:z6u_ ((i:Int)+(j:Int))=(i:Int)+j:=by unfold z6u_ IntKind.wrap; simp [IntKind.bits,IntKind.signed]; omega
 rw [hu,Int.fdiv_eq_ediv_of_nonneg _ (by omega),w_id (by omega) (by omega)]
 omega
abbrev Cx:=List (List Int)
def z1q_ (s:List Int) (k:Nat):List Int:=s.take k++s.drop (k+1)
theorem zjn_ {s:List Int} {k:Nat} (h:k<s.length):(z1q_ s k).length=s.length-1:=by
 unfold z1q_; rw [List.length_append,List.length_take,List.length_drop]; omega
structure CxP (c:Cx):Prop where
 len:c.length≤48
 simp:∀ s∈c,SimpP s
 ord:c.Pairwise (fun a b=>befS a b=true)
 face:∀ s∈c,1<s.length→∀ k,k<s.length→z1q_ s k∈c
open Classical in
noncomputable def cxB (c:Cx):Bool:=decide (CxP c)
theorem z69_ {c:Cx}:cxB c=true↔CxP c:=by unfold cxB; simp
def z2n_ (c:Cx):Prop:=c.length≤1048576∧∀ s∈c,s.length≤1048576
theorem zny_ {s:List Int} (hs:s.length≤1048576) {k:Nat} (h:k<s.length):z73_ s (k:Int)=some (z1q_ s k):=by
 have hL:=z2b_
 have hw:=zi_ (i:=k) (by omega)
 have b1:(k:Int)≤(s.length:Int):=by omega
 have b2:((k+1:Nat):Int)≤(s.length:Int):=by omega
 unfold z73_ zf1_
 have hdr:(s.drop (k+1)).take (s.length-(k+1))=s.drop (k+1):=List.take_of_length_le (by rw [List.length_drop]; exact Nat.le_refl _)
 simp only [Int.natCast_nonneg,Int.le_refl,b1,and_self,if_true,Int.toNat_natCast]
 rw [if_pos (by simp only [List.length_nil,List.length_take]; omega)]
 simp only [Option.bind_some,hw,Int.natCast_nonneg,Int.toNat_natCast,b2,Int.le_refl,and_self,if_true,hdr]
 rw [if_pos (by simp only [List.length_take,List.length_drop]; omega)]
 rfl
def posC (c:Cx) (s:List Int):Nat:=c.findIdx (fun y=>decide (y=s))
theorem z5f_ {c:Cx} {s:List Int}:posC c s<c.length↔s∈c:=by
 unfold posC
 rw [List.findIdx_lt_length]
 constructor
 ·rintro ⟨x,hx,h⟩; rw [← of_decide_eq_true h]; exact hx
 ·intro h; exact ⟨s,h,decide_eq_true rfl⟩
theorem znz_ {c:Cx} {s:List Int} (h:s∈c):c[posC c s]?=some s:=by
 have hl:=z5f_.2 h
 rw [List.getElem?_eq_getElem hl]
 have:decide (c[posC c s]=s)=true:=List.findIdx_getElem (xs:=c) (p:=fun y=>decide (y=s)) (w:=hl)
 rw [of_decide_eq_true this]
theorem ztt_ {k:Nat} (hk:KK≤k) {a b:List Int} (ha:a.length≤1000000000):zf2_ k a b=some (decide (a=b)):=by
 have hK:=zj_
 unfold zf2_
 by_cases hl:a.length=b.length
 ·rw [decide_eq_true (show (a.length:Int)=(b.length:Int) by omega),if_neg (by simp)]
  refine z6w_ (L:=fun n i=>z9c_ k n a b i (some true)) a b hl ?_ ?_ (n:=k) (by omega)
  ·intro n i x y hx hy hlt
   have hw:=zi_ (i:=i) (by omega)
   by_cases e:x=y <;> simp [z9c_,hlt,hx,hy,hw,e]
  ·intro n
   simp [z9c_]
 ·have h2:a≠b:=fun e=>hl (by rw [e])
  rw [decide_eq_false (show ¬ (a.length:Int)=(b.length:Int) by omega),if_pos (by simp),decide_eq_false h2]
theorem zo0_ {k:Nat} (hk:KK≤k) {c:Cx} (hc:z2n_ c) (s:List Int):zbe_ k c s=some (if posC c s<c.length then ((posC c s:Nat):Int) else -1):=by
 have hK:=zj_
 obtain ⟨h1,h2⟩:=hc
 unfold zbe_
 rw [z8f_ (L:=fun m i=>z9d_ k m c s i (some (-1))) (p:=fun y=>decide (y=s)) c ?_ ?_ (n:=k) (by omega)]
 ·unfold idxP posC
  cases hf:c.findIdx? (fun y=>decide (y=s)) with
  | some i =>
   obtain ⟨hlt,hp⟩:=List.findIdx?_eq_some_iff_findIdx_eq.1 hf
   rw [hp,if_pos hlt]
  | none =>
   rw [List.findIdx?_eq_none_iff] at hf
   have:¬ c.findIdx (fun y=>decide (y=s))<c.length:=fun h=>by
    obtain ⟨x,hx,h2⟩:=List.findIdx_lt_length.1 h
    rw [hf x hx] at h2; cases h2
   rw [if_neg this]
 ·intro m i x hi hlt
  have hw:=zi_ (i:=i) (by omega)
  have hxl:=h2 x (List.mem_of_getElem? hi)
  simp only [z9d_,hlt,decide_true,if_true,Int.natCast_nonneg,Int.toNat_natCast,hi,Option.bind_some,hw,ztt_ hk (show x.length≤1000000000 by omega)]
 ·intro m
  simp [z9d_]
theorem zo1_ (c:Cx) (s:List Int):decide ((if posC c s<c.length then ((posC c s:Nat):Int) else -1)<0)=!decide (s∈c):=by
 by_cases h:s∈c
 ·rw [if_pos (z5f_.2 h),decide_eq_false (by omega),decide_eq_true h]; rfl
 ·rw [if_neg (fun h2=>h (z5f_.1 h2)),decide_eq_false h]; rfl
theorem ztu_ {k:Nat} (hk:KK≤k) {a b:List Int} (ha:a.length≤1048576) (hb:b.length≤1048576):zfq_ k [a,b]=some (a++b):=by
 have hK:=zj_
 have hL:=z2b_
 obtain ⟨n,rfl⟩:∃ n,k=n+3:=⟨k-3,by omega⟩
 have w1:z0_ (0+(a.length:Int))=(a.length:Int):=by rw [w_id (by omega) (by omega)]; omega
 have w2:z0_ ((a.length:Int)+(b.length:Int))=((a.length+b.length:Nat):Int):=by rw [w_id (by omega) (by omega)]; omega
 have w3:z0_ ((0:Int)+1)=1:=w_id (by omega) (by omega)
 have w4:z0_ ((1:Int)+1)=2:=w_id (by omega) (by omega)
 have n1:¬ ((a.length:Int)<0):=by omega
 have n2:¬ (((a.length+b.length:Nat):Int)<0):=by omega
 have l1:(((a.length+b.length:Nat):Int).toNat)*8≤LIM:=by simp only [Int.toNat_natCast]; omega
 have l2:a.length*8≤LIM:=by omega
 have l3:(a.length+b.length)*8≤LIM:=by omega
 unfold zfq_
 simp only [zfo_,List.length_cons,List.length_nil,Nat.zero_add,Nat.reduceAdd,show ((2:Nat):Int)=2 from rfl,w1,w2,w3,w4]
 simp only [zno_,zfp_,w1,w2,w3,w4,n1,n2,true_and,l1,l2,l3,Int.natCast_nonneg,List.nil_append,decide_false,Bool.false_eq_true,if_false,if_true,Option.bind_some,and_self,List.getElem?_cons_zero,List.getElem?_cons_succ,show decide ((0:Int)<2)=true from rfl,show decide ((1:Int)<2)=true from rfl,show decide ((2:Int)<2)=false from rfl,show (0:Int).toNat=0 from rfl,show (1:Int).toNat=1 from rfl,show (0:Int)≤0 from Int.le_refl _,show (0:Int)≤1 by omega,List.length_cons,List.length_nil,Nat.zero_add,Nat.reduceAdd,show ((2:Nat):Int)=2 from rfl]
def z1h_ (s:List Int):Cx:=if 1<s.length then (List.range s.length).map (z1q_ s) else []
theorem zo2_ {k:Nat} (hk:KK≤k) {s:List Int} (hs:s.length≤1048576):z9u_ k s=some (z1h_ s):=by
 have hK:=zj_
 have hL:=z2b_
 unfold z9u_
 have:=z2c_ (α:=Nat) (A:=Cx) (L:=fun n i q=>z7e_ k n s (s.length:Int) i q (fun q_3=>some q_3)) (I:=fun pre q=>q=(if 1<s.length then (List.range pre.length).map (z1q_ s) else [])) (G:=fun _ _=>some (z1h_ s)) (List.range s.length) ?_ ?_ k (by simp; omega) [] (by simp)
 ·exact this
 ·intro n pre x post q hx hq ih hg hlt
  rw [List.length_range] at hlt
  have hpl:pre.length<s.length:=by omega
  have hw:=zi_ (i:=pre.length) (by omega)
  simp only [z7e_,hlt,decide_true,if_true]
  by_cases c:1<s.length
  ·rw [if_pos c] at hq
   have b1:(pre.length:Int)≤(s.length:Int):=by omega
   have b2:((pre.length+1:Nat):Int)≤(s.length:Int):=by omega
   have hdr:(s.drop (pre.length+1)).take (s.length-(pre.length+1))=s.drop (pre.length+1):=List.take_of_length_le (by rw [List.length_drop]; exact Nat.le_refl _)
   have hcc:=ztu_ hk (a:=s.take pre.length) (b:=s.drop (pre.length+1)) (by rw [List.length_take]; omega) (by rw [List.length_drop]; omega)
   have hlim:(q.length+1)*24≤LIM:=by rw [hq,List.length_map,List.length_range]; omega
   rw [decide_eq_true (by omega),if_pos rfl]
   simp only [Int.natCast_nonneg,Int.le_refl,Int.toNat_natCast,b1,hw,b2,and_self,if_true,hdr,hcc,Option.bind_some,List.length_singleton,hlim]
   refine ih _ ?_
   rw [if_pos c,hq,List.length_append,List.length_singleton,List.range_succ,List.map_append]
   rfl
  ·rw [decide_eq_false (by omega),if_neg (by simp),hw]
   exact ih _ (by rw [if_neg c] at hq ⊢; exact hq)
 ·intro n q hq
  rw [List.length_range] at hq ⊢
  simp only [z7e_,Int.lt_irrefl,decide_false,Bool.false_eq_true,if_false,hq]
  rfl
theorem zbo_ {s f:List Int}:f∈z1h_ s↔1<s.length∧∃ k,k<s.length∧f=z1q_ s k:=by
 unfold z1h_
 by_cases c:1<s.length
 ·rw [if_pos c,List.mem_map]
  constructor
  ·rintro ⟨k,hk,rfl⟩; exact ⟨c,k,List.mem_range.1 hk,rfl⟩
  ·rintro ⟨_,k,hk,rfl⟩; exact ⟨k,List.mem_range.2 hk,rfl⟩
 ·rw [if_neg c]; simp [c]
def lowC (c:Cx) (s:List Int):Nat:=c.findIdx (fun y=>!befS y s)
theorem ztv_ (c:Cx) (s:List Int):lowC c s≤c.length:=List.findIdx_le_length
theorem zo3_ {c:Cx} {s:List Int} {i:Nat} (h:i<lowC c s) (hi:i<c.length):befS c[i] s=true:=by
 have:=List.not_of_lt_findIdx h
 simpa using this
theorem zo4_ {c:Cx} {s:List Int} (hs:c.Pairwise (fun a b=>befS a b=true)) {i:Nat} (h:lowC c s≤i) (hi:i<c.length):befS c[i] s=false:=by
 have hp:lowC c s<c.length:=by omega
 have h0:befS c[lowC c s] s=false:=by
  have:=List.findIdx_getElem (xs:=c) (p:=fun y=>!befS y s) (w:=hp)
  simp only [Bool.not_eq_true'] at this
  exact this
 by_cases e:i=lowC c s
 ·subst e; exact h0
 ·cases hb:befS c[i] s
  ·rfl
  ·have h1:=List.pairwise_iff_getElem.1 hs (lowC c s) i hp hi (by omega)
   rw [zbn_ h1 hb] at h0; cases h0
theorem ztw_ {c:Cx} (hs:c.Pairwise (fun a b=>befS a b=true)) {s:List Int} (h:s∈c):lowC c s=posC c s:=by
 have hl:=z5f_.2 h
 have hg:=znz_ h
 rw [List.getElem?_eq_getElem hl] at hg
 have hg:=Option.some.inj hg
 have h1:¬ posC c s<lowC c s:=fun q=>by have:=zo3_ q hl; rw [hg,zfv_] at this; cases this
 have h2:¬ lowC c s<posC c s:=fun q=>by
  have h3:=List.pairwise_iff_getElem.1 hs (lowC c s) (posC c s) (by omega) hl q
  rw [hg] at h3
  rw [zo4_ hs (Nat.le_refl _) (by omega)] at h3; cases h3
 omega
theorem ztx_ {k:Nat} (hk:KK≤k) {c:Cx} (hc:z2n_ c) (hs:c.Pairwise (fun a b=>befS a b=true)) {s:List Int} (hsl:s.length≤1048576) {e:Cx→List Int→Unit→Int→Int→Option (Int×Bool)} :
  ∀ (d:Nat) (i j n:Nat),j-i≤d→d<n→i≤lowC c s→lowC c s≤j→j≤c.length→z66_ k n c s () (c.length:Int) (i:Int) (j:Int) e=e c s () (c.length:Int) ((lowC c s:Nat):Int):=by
 obtain ⟨hcl,hce⟩:=hc
 intro d
 induction d with
 | zero =>
  intro i j n h1 h2 h3 h4 h5
  obtain ⟨n,rfl⟩:∃ m,n=m+1:=⟨n-1,by omega⟩
  have hlt:¬ (i:Int)<(j:Int):=by omega
  simp only [z66_,hlt,decide_false,Bool.false_eq_true,if_false]
  rw [show i=lowC c s by omega]
 | succ d ih =>
  intro i j n h1 h2 h3 h4 h5
  obtain ⟨n,rfl⟩:∃ m,n=m+1:=⟨n-1,by omega⟩
  by_cases hij:i<j
  ·have hlt:(i:Int)<(j:Int):=by omega
   have hm:(i+j) / 2<c.length:=by omega
   have hw:=zi_ (i:=(i+j) / 2) (by omega)
   have hml:=hce c[(i+j) / 2] (List.getElem_mem hm)
   simp only [z66_,hlt,decide_true,if_true,zts_ (show i+j<4611686018427387904 by omega),Int.natCast_nonneg,Int.toNat_natCast,List.getElem?_eq_getElem hm,Option.bind_some,zfw_ hk (show (c[(i+j) / 2]).length≤1000000000 by omega) (show s.length≤1000000000 by omega),znx_,hw]
   by_cases hb:befS c[(i+j) / 2] s=true
   ·rw [if_pos hb]
    refine ih _ _ _ (by omega) (by omega) ?_ h4 h5
    by_cases hq:lowC c s≤(i+j) / 2
    ·rw [zo4_ hs hq hm] at hb; cases hb
    ·omega
   ·rw [if_neg hb]
    refine ih _ _ _ (by omega) (by omega) h3 ?_ (by omega)
    by_cases hq:(i+j) / 2<lowC c s
    ·exact absurd (zo3_ hq hm) hb
    ·omega
  ·have hlt:¬ (i:Int)<(j:Int):=by omega
   simp only [z66_,hlt,decide_false,Bool.false_eq_true,if_false]
   rw [show i=lowC c s by omega]
theorem zo5_ {k:Nat} (hk:KK≤k) {c:Cx} (hc:z2n_ c) (hs:c.Pairwise (fun a b=>befS a b=true)) {s:List Int} (hsl:s.length≤1048576):zbk_ k c s=some (if posC c s<c.length then ((posC c s:Nat):Int) else -1):=by
 have hK:=zj_
 have hcl:=hc.1
 have:=ztv_ c s
 unfold zbk_ zjd_
 have h0:=ztx_ hk hc hs hsl (e:=fun x_3 target_4 cmp_5 n_6 i_7=>(if (decide (i_7<n_6))=true then (if 0≤i_7 then (x_3[i_7.toNat]?).bind fun y_8=>(z7d_ k y_8 target_4).bind fun r_9=>some (i_7,(decide (r_9=0))) else none) else some (i_7,false))) c.length 0 c.length k (by omega) (by omega) (by omega) (by omega) (by omega)
 rw [show ((0:Nat):Int)=0 from rfl] at h0
 rw [h0]
 by_cases h:s∈c
 ·have hp:=ztw_ hs h
  have hl:=z5f_.2 h
  have hg:=znz_ h
  rw [hp,if_pos hl,decide_eq_true (by omega),if_pos rfl]
  simp only [Int.natCast_nonneg,if_true,Int.toNat_natCast,hg,Option.bind_some,zfw_ hk (show s.length≤1000000000 by omega) (show s.length≤1000000000 by omega)]
  have:z4o_ s s=0:=(znw_ s s).2 rfl
  rw [this]; rfl
 ·rw [if_neg (fun q=>h (z5f_.1 q))]
  by_cases hl:lowC c s<c.length
  ·have hxl:=hc.2 c[lowC c s] (List.getElem_mem hl)
   rw [decide_eq_true (by omega),if_pos rfl]
   simp only [Int.natCast_nonneg,if_true,Int.toNat_natCast,List.getElem?_eq_getElem hl,Option.bind_some,zfw_ hk (show (c[lowC c s]).length≤1000000000 by omega) (show s.length≤1000000000 by omega)]
   have:¬ z4o_ c[lowC c s] s=0:=fun e=>h (by rw [← (znw_ _ _).1 e]; exact List.getElem_mem hl)
   rw [decide_eq_false this]; rfl
  ·rw [decide_eq_false (by omega),if_neg (by simp)]; rfl
open Classical in
noncomputable def cxAt (c d:Cx) (i:Nat):Bool:=decide (∀ s,c[i]?=some s→SimpP s∧z46_ (fun a b=>befS a b=true) c i s∧(1<s.length→∀ k,k<s.length→z1q_ s k∈d))
open Classical in
theorem z2e_ {c d:Cx} {i:Nat} {s:List Int} (h:c[i]?=some s):cxAt c d i=true↔SimpP s∧z46_ (fun a b=>befS a b=true) c i s∧(1<s.length→∀ k,k<s.length→z1q_ s k∈d):=by
 unfold cxAt
 rw [decide_eq_true_eq]
 exact ⟨fun q=>q s h,fun q t ht=>by rw [h] at ht; cases ht; exact q⟩
open Classical in
theorem zty_ {k:Nat} (hk:KK≤k) {c:Cx} (hc:z2n_ c):zf3_ k c=some (cxB c):=by
 have hK:=zj_
 obtain ⟨hcl,hce⟩:=hc
 unfold zf3_
 by_cases h48:c.length≤48
 ·rw [decide_eq_false (by omega),if_neg (by simp)]
  have:=z3q_ (L:=fun n i=>z43_ k n c i (some true)) (b:=c.length) (p:=fun i=>cxAt c c i) (r:=some false) (e:=some true) ?_ ?_ (n:=k) (by omega)
  ·rw [this]
   have e:(List.range c.length).all (fun i=>cxAt c c i)=true↔CxP c:=by
    rw [List.all_eq_true]
    constructor
    ·intro h
     have h':∀ i s,c[i]?=some s→SimpP s∧z46_ (fun a b=>befS a b=true) c i s∧(1<s.length→∀ k,k<s.length→z1q_ s k∈c):=fun i s hs=>(z2e_ hs).1 (h i (List.mem_range.2 (List.getElem?_eq_some_iff.1 hs).1))
     refine ⟨h48,fun s hs=>?_,?_,fun s hs=>?_⟩
     ·obtain ⟨i,hi⟩:=List.getElem?_of_mem hs
      exact (h' i s hi).1
     ·have:=zfu_ (R:=fun a b=>befS a b=true) (fun a b c=>zbn_) (l:=c) (m:=c.length) (fun j hj x hx=>(h' j x hx).2.1)
      rwa [List.take_length] at this
     ·obtain ⟨i,hi⟩:=List.getElem?_of_mem hs
      exact (h' i s hi).2.2
    ·intro h i hi
     rw [List.mem_range] at hi
     exact (z2e_ (List.getElem?_eq_getElem hi)).2 ⟨h.simp _ (List.getElem_mem hi),zjm_ h.ord (List.getElem?_eq_getElem hi),h.face _ (List.getElem_mem hi)⟩
   by_cases q:CxP c
   ·rw [if_pos (e.2 q),z69_.2 q]
   ·rw [if_neg (fun h=>q (e.1 h))]
    congr 1
    symm
    rw [Bool.eq_false_iff,ne_eq,z69_]; exact q
  ·intro n i hi
   have hlt:(i:Int)<(c.length:Int):=by omega
   have hw:=zi_ (i:=i) (by omega)
   have hg:c[i]?=some c[i]:=List.getElem?_eq_getElem hi
   have hsl:=hce c[i] (List.getElem_mem hi)
   have hin:z59_ k k c (i:Int) c[i] 0 (fun c_5 i_6=>z43_ k n c_5 (z0_ (i_6+1)) (some true))=if (∀ k,1<(c[i]).length→k<(c[i]).length→z1q_ c[i] k∈c) then z43_ k n c ((i+1:Nat):Int) (some true) else some false:=by
    by_cases h1:1<(c[i]).length
    ·have:=z3q_ (L:=fun m j=>z59_ k m c (i:Int) c[i] j (fun c_5 i_6=>z43_ k n c_5 (z0_ (i_6+1)) (some true))) (b:=(c[i]).length) (p:=fun j=>decide (z1q_ c[i] j∈c)) (r:=some false) (e:=z43_ k n c ((i+1:Nat):Int) (some true)) ?_ ?_ (n:=k) (by omega)
     ·rw [this]
      simp only [List.all_eq_true,List.mem_range,decide_eq_true_eq]
      by_cases q:∀ j,j<(c[i]).length→z1q_ c[i] j∈c
      ·rw [if_pos q,if_pos (fun j _ hj=>q j hj)]
      ·rw [if_neg q,if_neg (fun h=>q fun j hj=>h j h1 hj)]
     ·intro m j hj
      have hjlt:(j:Int)<((c[i]).length:Int):=by omega
      have hw2:=zi_ (i:=j) (by omega)
      simp only [z59_,hjlt,decide_true,if_true,decide_eq_true (show (1:Int)<((c[i]).length:Int) by omega),zny_ hsl hj,Option.bind_some,zo0_ hk ⟨hcl,hce⟩,zo1_,hw2]
      by_cases q:z1q_ c[i] j∈c
      ·rw [decide_eq_true q]; simp
      ·rw [decide_eq_false q]; simp
     ·intro m
      simp only [z59_,Int.lt_irrefl,decide_false,Bool.false_eq_true,if_false,hw]
    ·rw [if_pos (fun j h=>absurd h h1)]
     obtain ⟨m,hm⟩:∃ m,k=m+1:=⟨k-1,by omega⟩
     have hn1:¬ (1:Int)<((c[i]).length:Int):=by omega
     conv=>lhs; arg 2; rw [hm]
     simp only [z59_,hn1,decide_false,Bool.false_eq_true,if_false,hw]
     split <;> rfl
   simp only [z43_,hlt,decide_true,if_true,Int.natCast_nonneg,Int.toNat_natCast,hg,Option.bind_some,ztk_ hk (show (c[i]).length≤1000000000 by omega)]
   cases hsb:z67_ c[i] with
   | false =>
    have:¬ cxAt c c i=true:=fun h=>by
     have:=z68_.2 ((z2e_ hg).1 h).1
     rw [hsb] at this; cases this
    rw [if_neg this]; simp
   | true =>
    have hsp:=z68_.1 hsb
    simp only [Bool.not_true,Bool.false_eq_true,if_false]
    by_cases h0:0<i
    ·have h0':(0:Int)<(i:Int):=by omega
     have hw1:z0_ ((i:Int)-1)=((i-1:Nat):Int):=by rw [w_id (by omega) (by omega)]; omega
     have hg1:c[i-1]?=some c[i-1]:=List.getElem?_eq_getElem (by omega)
     have hpl:=hce c[i-1] (List.getElem_mem (by omega))
     simp only [h0',decide_true,if_true,hw1,Int.natCast_nonneg,Int.toNat_natCast,hg1,Option.bind_some,ztr_ hk (show (c[i-1]).length≤1000000000 by omega)]
     cases hbf:befS c[i-1] c[i] with
     | false =>
      have:¬ cxAt c c i=true:=fun h=>by
       have:befS c[i-1] c[i]=true:=((z2e_ hg).1 h).2.1 h0 _ hg1
       rw [hbf] at this; cases this
      rw [if_neg this]; simp
     | true =>
      simp only [Bool.not_true,Bool.false_eq_true,if_false,hin]
      by_cases q:∀ k,1<(c[i]).length→k<(c[i]).length→z1q_ c[i] k∈c
      ·rw [if_pos q,if_pos ((z2e_ hg).2 ⟨hsp,fun _ t ht=>by rw [hg1] at ht; cases ht; exact hbf,fun a b=>q b a⟩)]
      ·rw [if_neg q,if_neg (fun h=>q fun b a=>((z2e_ hg).1 h).2.2 a b)]
    ·have h0':¬ (0:Int)<(i:Int):=by omega
     simp only [h0',decide_false,Bool.false_eq_true,if_false,hin]
     by_cases q:∀ k,1<(c[i]).length→k<(c[i]).length→z1q_ c[i] k∈c
     ·rw [if_pos q,if_pos ((z2e_ hg).2 ⟨hsp,fun h=>absurd h h0,fun a b=>q b a⟩)]
     ·rw [if_neg q,if_neg (fun h=>q fun b a=>((z2e_ hg).1 h).2.2 a b)]
  ·intro n
   simp only [z43_,Int.lt_irrefl,decide_false,Bool.false_eq_true,if_false]
 ·rw [decide_eq_true (by omega),if_pos rfl]
  congr 1
  symm
  rw [Bool.eq_false_iff,ne_eq,z69_]
  exact fun h=>h48 h.len
theorem ztz_ {c:Cx} (hc:z2n_ c) (i:Nat):z2n_ (c.take i):=⟨by rw [List.length_take]; have:=hc.1; omega,fun s hs=>hc.2 s (List.mem_of_mem_take hs)⟩
theorem zu0_ {k:Nat} (hk:KK≤k) {c:Cx} (hc:z2n_ c) {i:Nat} (hi:i≤c.length) (hs:(c.take i).Pairwise (fun a b=>befS a b=true)) {s:List Int} (hsl:s.length≤1048576):zbl_ k (z1h_ s) (c,(i:Int))=some ((z1h_ s).any fun f=>!decide (f∈c.take i)):=by
 have hK:=zj_
 have hcl:=hc.1
 have hfl:(z1h_ s).length≤1048576:=by
  unfold z1h_
  split
  ·rw [List.length_map,List.length_range]; exact hsl
  ·simp
 unfold zbl_ zjf_
 rw [z8f_ (L:=fun n j=>z9v_ k n (z1h_ s) (c,(i:Int)) ((z1h_ s).length:Int) j (some (-1))) (p:=fun f=>!decide (f∈c.take i)) (z1h_ s) ?_ ?_ (n:=k) (by omega)]
 ·rw [Option.bind_some,zbm_]
 ·intro n j f hj hlt
  have hw:=zi_ (i:=j) (by omega)
  have hf:f.length≤1048576:=by
   obtain ⟨_,q,hq,rfl⟩:=zbo_.1 (List.mem_of_getElem? hj)
   rw [zjn_ hq]; omega
  have b1:(i:Int)≤(c.length:Int):=by omega
  simp only [z9v_,zje_,hlt,decide_true,if_true,Int.natCast_nonneg,Int.le_refl,b1,and_self,Int.toNat_natCast,hj,Option.bind_some,zo5_ hk (ztz_ hc i) hs hf,zo1_,hw]
 ·intro n
  simp [z9v_]
theorem zfx_ {s:List Int} {d:Cx}:((z1h_ s).any fun f=>!decide (f∈d))=false↔(1<s.length→∀ k,k<s.length→z1q_ s k∈d):=by
 rw [List.any_eq_false]
 constructor
 ·intro h h1 k hk
  have:=h _ (zbo_.2 ⟨h1,k,hk,rfl⟩)
  simpa using this
 ·intro h f hf
  obtain ⟨h1,k,hk,rfl⟩:=zbo_.1 hf
  simpa using h h1 k hk
theorem zu1_ {k:Nat} (hk:KK≤k) {c:Cx} (hc:z2n_ c):ze2_ k c=some (cxB c):=by
 have hK:=zj_
 obtain ⟨hcl,hce⟩:=hc
 unfold ze2_
 have:=zti_ (L:=fun n i=>z7f_ k n c (c.length:Int) i c (fun v_9=>some (decide ((List.length v_9:Int)≤48)))) (b:=c.length) (p:=fun i=>cxAt c (c.take i) i) (r:=some false) (e:=some (decide (c.length≤48))) ?_ ?_ (n:=k) (by omega)
 ·rw [this]
  have e:((List.range c.length).all (fun i=>cxAt c (c.take i) i)=true∧c.length≤48)↔CxP c:=by
   rw [List.all_eq_true]
   constructor
   ·rintro ⟨h,h48⟩
    have h':∀ i s,c[i]?=some s→SimpP s∧z46_ (fun a b=>befS a b=true) c i s∧(1<s.length→∀ k,k<s.length→z1q_ s k∈c.take i):=fun i s hs=>(z2e_ hs).1 (h i (List.mem_range.2 (List.getElem?_eq_some_iff.1 hs).1))
    refine ⟨h48,fun s hs=>?_,?_,fun s hs h1 k hk=>?_⟩
    ·obtain ⟨i,hi⟩:=List.getElem?_of_mem hs
     exact (h' i s hi).1
    ·have:=zfu_ (R:=fun a b=>befS a b=true) (fun a b c=>zbn_) (l:=c) (m:=c.length) (fun j hj x hx=>(h' j x hx).2.1)
     rwa [List.take_length] at this
    ·obtain ⟨i,hi⟩:=List.getElem?_of_mem hs
     exact List.mem_of_mem_take ((h' i s hi).2.2 h1 k hk)
   ·intro h
    refine ⟨fun i hi=>?_,h.len⟩
    rw [List.mem_range] at hi
    have hg:c[i]?=some c[i]:=List.getElem?_eq_getElem hi
    refine (z2e_ hg).2 ⟨h.simp _ (List.getElem_mem hi),zjm_ h.ord hg,fun h1 k hk=>?_⟩
    have hm:=h.face _ (List.getElem_mem hi) h1 k hk
    obtain ⟨j,hj⟩:=List.getElem?_of_mem hm
    obtain ⟨hjl,hje⟩:=List.getElem?_eq_some_iff.1 hj
    have hji:j<i:=by
     by_cases q:j<i
     ·exact q
     ·have hb:befS (z1q_ c[i] k) c[i]=true:=by
       unfold befS
       rw [zjn_ hk,decide_eq_true (by omega)]; rfl
      by_cases q2:j=i
      ·subst q2
       have:=zfv_ c[j]
       rw [← hje,zfv_] at hb; cases hb
      ·have h3:=List.pairwise_iff_getElem.1 h.ord i j hi hjl (by omega)
       rw [hje,zto_ hb] at h3; cases h3
    rw [List.mem_take_iff_getElem]
    exact ⟨j,by omega,hje⟩
  by_cases q:CxP c
  ·obtain ⟨q1,q2⟩:=e.2 q
   rw [if_pos q1,decide_eq_true q2,z69_.2 q]
  ·have:cxB c=false:=by rw [Bool.eq_false_iff,ne_eq,z69_]; exact q
   rw [this]
   by_cases q1:(List.range c.length).all (fun i=>cxAt c (c.take i) i)=true
   ·rw [if_pos q1,decide_eq_false (fun q2=>q (e.1 ⟨q1,q2⟩))]
   ·rw [if_neg q1]
 ·intro n i hi hpre
  have hlt:(i:Int)<(c.length:Int):=by omega
  have hw:=zi_ (i:=i) (by omega)
  have hg:c[i]?=some c[i]:=List.getElem?_eq_getElem hi
  have hsl:=hce c[i] (List.getElem_mem hi)
  have hsorted:(c.take i).Pairwise (fun a b=>befS a b=true):=zfu_ (R:=fun a b=>befS a b=true) (fun a b c=>zbn_) (fun j hj x hx=>((z2e_ hx).1 (hpre j hj)).2.1)
  simp only [z7f_,hlt,decide_true,if_true,Int.natCast_nonneg,Int.toNat_natCast,hg,Option.bind_some,ztn_ hk (show (c[i]).length≤1000000000 by omega),zo2_ hk hsl,zu0_ hk ⟨hcl,hce⟩ (Nat.le_of_lt hi) hsorted hsl,hw]
  cases hsb:z67_ c[i] with
  | false =>
   have:¬ cxAt c (c.take i) i=true:=fun h=>by
    have:=z68_.2 ((z2e_ hg).1 h).1
    rw [hsb] at this; cases this
   rw [if_neg this]; simp
  | true =>
   have hsp:=z68_.1 hsb
   simp only [Bool.not_true,Bool.false_eq_true,if_false]
   by_cases h0:0<i
   ·have h0':(0:Int)<(i:Int):=by omega
    have hw1:z0_ ((i:Int)-1)=((i-1:Nat):Int):=by rw [w_id (by omega) (by omega)]; omega
    have hg1:c[i-1]?=some c[i-1]:=List.getElem?_eq_getElem (by omega)
    have hpl:=hce c[i-1] (List.getElem_mem (by omega))
    simp only [h0',decide_true,if_true,hw1,Int.natCast_nonneg,Int.toNat_natCast,hg1,Option.bind_some,zfw_ hk (show (c[i-1]).length≤1000000000 by omega) (show (c[i]).length≤1000000000 by omega),ztp_]
    cases hbf:befS c[i-1] c[i] with
    | false =>
     have:¬ cxAt c (c.take i) i=true:=fun h=>by
      have:befS c[i-1] c[i]=true:=((z2e_ hg).1 h).2.1 h0 _ hg1
      rw [hbf] at this; cases this
     rw [if_neg this]; simp
    | true =>
     simp only [Bool.not_true,Bool.false_eq_true,if_false]
     cases hq:(z1h_ c[i]).any fun f=>!decide (f∈c.take i) with
     | false =>
      rw [if_neg (by simp),if_pos ((z2e_ hg).2 ⟨hsp,fun _ t ht=>by rw [hg1] at ht; cases ht; exact hbf,zfx_.1 hq⟩)]
     | true =>
      rw [if_pos rfl,if_neg (fun h=>by rw [zfx_.2 ((z2e_ hg).1 h).2.2] at hq; cases hq)]
   ·have h0':¬ (0:Int)<(i:Int):=by omega
    simp only [h0',decide_false,Bool.false_eq_true,if_false]
    cases hq:(z1h_ c[i]).any fun f=>!decide (f∈c.take i) with
    | false =>
     rw [if_neg (by simp),if_pos ((z2e_ hg).2 ⟨hsp,fun h=>absurd h h0,zfx_.1 hq⟩)]
    | true =>
     rw [if_pos rfl,if_neg (fun h=>by rw [zfx_.2 ((z2e_ hg).1 h).2.2] at hq; cases hq)]
 ·intro n
  have e2:decide ((c.length:Int)≤48)=decide (c.length≤48):=decide_eq_decide.2 (by omega)
  simp only [z7f_,Int.lt_irrefl,decide_false,Bool.false_eq_true,if_false,e2]
theorem zo6_ {k:Nat} {p:Int} (hp:p≤251):∀ (m d n:Nat),17-d≤m→2≤d→m<n→d≤17→∃ b,z5a_ k n p (d:Int) (some true)=some b∧z5e_ k n p (d:Int) (some true)=some b
 | m,d,0,_,_,h,_=>by omega
 | 0,d,n+1,h,h2,_,h4=>by
  have hd:d=17:=by omega
  subst hd
  have w1:z0_ (((17:Nat):Int)*((17:Nat):Int))=289:=by rw [w_id (by omega) (by omega)]; rfl
  have hc:¬ ((289:Int)≤p):=by omega
  refine ⟨true,?_,?_⟩
  ·unfold z5a_; rw [w1,decide_eq_false hc,if_neg (by simp)]
  ·unfold z5e_; rw [w1,decide_eq_false hc,if_neg (by simp)]
 | m+1,d,n+1,h,h2,hn,h4=>by
  by_cases hc:z0_ ((d:Int)*(d:Int))≤p
  ·have hd0:¬ ((d:Int)=0):=by omega
   have hw:=zi_ (i:=d) (by omega)
   by_cases hm:Int.tmod p (d:Int)=0
   ·refine ⟨false,?_,?_⟩
    ·unfold z5a_; rw [decide_eq_true hc,if_pos rfl,if_neg hd0,decide_eq_true hm,if_pos rfl]
    ·unfold z5e_; rw [decide_eq_true hc,if_pos rfl,if_neg hd0,decide_eq_true hm,if_pos rfl]
   ·by_cases h17:d=17
    ·subst h17
     have w1:z0_ (((17:Nat):Int)*((17:Nat):Int))=289:=by rw [w_id (by omega) (by omega)]; rfl
     rw [w1] at hc; omega
    ·obtain ⟨b,h5,h6⟩:=zo6_ (k:=k) hp m (d+1) n (by omega) (by omega) (by omega) (by omega)
     refine ⟨b,?_,?_⟩
     ·rw [← h5]; conv=>lhs; unfold z5a_
      rw [decide_eq_true hc,if_pos rfl,if_neg hd0,decide_eq_false hm,if_neg (by simp),hw]
     ·rw [← h6]; conv=>lhs; unfold z5e_
      rw [decide_eq_true hc,if_pos rfl,if_neg hd0,decide_eq_false hm,if_neg (by simp),hw]
  ·refine ⟨true,?_,?_⟩
   ·unfold z5a_; rw [decide_eq_false hc,if_neg (by simp)]
   ·unfold z5e_; rw [decide_eq_false hc,if_neg (by simp)]
theorem zo7_ {k:Nat} (hk:KK≤k) (p:Int):∃ b,z74_ k p=some b∧z8o_ k p=some b∧(b=true→2≤p∧p≤251):=by
 have hK:=zj_
 unfold z74_ zib_ z8o_
 rw [z4m_,z45_]
 by_cases h:2≤p∧p≤251
 ·obtain ⟨b,h1,h2⟩:=zo6_ (k:=k) (p:=p) h.2 15 2 k (by omega) (by omega) (by omega) (by omega)
  have h1:z5a_ k k p 2 (some true)=some b:=h1
  have h2:z5e_ k k p 2 (some true)=some b:=h2
  refine ⟨b,?_,?_,fun _=>h⟩
  ·simp [h,h1]
  ·simp [h,h2]
 ·exact ⟨false,by simp [h],by simp [h],fun h=>by cases h⟩
abbrev Mat:=Int×Int×Int×List Int
theorem zbp_ {k:Nat} (hk:KK≤k) {v:List Int} (hv:v.length≤1048576) (n:Int) {p:Int} (hp : -1000000≤p∧p≤1000000):z44_ k v n p=some (v.all (fun x=>decide (0≤x∧x≤p-1))&&decide ((v.length:Int)=n)):=by
 have hK:=zj_
 have hw1:z0_ (p-1)=p-1:=w_id (by omega) (by omega)
 unfold z44_
 have:=zhv_ (L:=fun m i=>z9e_ k m v n p i (fun v_3 n_4=>some (decide ((List.length v_3:Int)=n_4)))) (p:=fun x=>decide (0≤x∧x≤p-1)) (r:=some false) (e:=some (decide ((v.length:Int)=n))) v ?_ ?_ (n:=k) (by omega)
 ·refine this.trans ?_
  cases v.all (fun x=>decide (0≤x∧x≤p-1)) <;> simp
 ·intro m i x hx hlt
  have hw:=zi_ (i:=i) (by omega)
  simp only [z9e_,hlt,decide_true,if_true,Int.natCast_nonneg,Int.toNat_natCast,hx,Option.bind_some,z4m_,hw1,hw]
  by_cases c:0≤x∧x≤p-1 <;> simp [c]
 ·intro m
  simp only [z9e_,Int.lt_irrefl,decide_false,Bool.false_eq_true,if_false]
theorem zo8_ {k:Nat} (hk:KK≤k) {v:List Int} (hv:v.length≤1048576) {p:Int} (hp : -1000000≤p∧p≤1000000):zb7_ k v p=some (v.all (fun x=>decide (0≤x∧x≤p-1))):=by
 have hK:=zj_
 have hw1:z0_ (p-1)=p-1:=w_id (by omega) (by omega)
 unfold zb7_ zhy_ zhx_
 rw [z8f_ (L:=fun n i=>z8n_ k n v p (v.length:Int) i (some (-1))) (p:=fun x=>!decide (0≤x∧x≤p-1)) v ?_ ?_ (n:=k) (by omega)]
 ·simp only [Option.bind_some,zbm_]
  congr 1
  rw [← List.not_all_eq_any_not,Bool.not_not]
 ·intro n i x hi hlt
  have hw:=zi_ (i:=i) (by omega)
  simp only [z8n_,zhw_,z3k_,z45_,hw1,hlt,decide_true,if_true,Int.natCast_nonneg,Int.toNat_natCast,hi,Option.bind_some,hw]
 ·intro n
  simp [z8n_]
structure MatP (m:Mat) (R C:Nat):Prop where
 rows:m.2.1=(R:Int)
 cols:m.2.2.1=(C:Int)
 r32:R≤32
 c32:C≤32
 len:m.2.2.2.length=R*C
 prime:2≤m.1∧m.1≤251
 cells:∀ x∈m.2.2.2,0≤x∧x≤250
theorem zu2_ {k:Nat} (hk:KK≤k) {m:Mat} (hv:m.2.2.2.length≤1048576):∃ b,z9k_ k m=some b∧zb8_ k m=some b∧(b=true→∃ R C,MatP m R C):=by
 obtain ⟨b,h1,h2,h3⟩:=zo7_ hk m.1
 unfold z9k_ zb8_ ze0_ z6x_
 rw [h1,h2]
 cases b
 ·exact ⟨false,by simp,by simp,fun h=>by cases h⟩
 ·have hp:=h3 rfl
  simp only [Option.bind_some,if_true,z4m_,z45_,zbp_ hk hv _ (show -1000000≤m.1∧m.1≤1000000 by omega),zo8_ hk hv (show -1000000≤m.1∧m.1≤1000000 by omega)]
  by_cases c1:0≤m.2.1∧m.2.1≤32
  ·by_cases c2:0≤m.2.2.1∧m.2.2.1≤32
   ·rw [decide_eq_true c1,decide_eq_true c2,if_pos rfl,if_pos rfl,if_pos rfl,if_pos rfl]
    obtain ⟨R,hR⟩:=Int.eq_ofNat_of_zero_le c1.1
    obtain ⟨C,hC⟩:=Int.eq_ofNat_of_zero_le c2.1
    have hRC:R*C≤32*32:=Nat.mul_le_mul (by omega) (by omega)
    have hw:z0_ (m.2.1*m.2.2.1)=((R*C:Nat):Int):=by
     rw [hR,hC,← Int.natCast_mul]
     exact w_id (by omega) (by omega)
    rw [hw]
    refine ⟨m.2.2.2.all (fun x=>decide (0≤x∧x≤m.1-1))&&decide ((m.2.2.2.length:Int)=((R*C:Nat):Int)),rfl,?_,fun h=>?_⟩
    ·by_cases c3:(m.2.2.2.length:Int)=((R*C:Nat):Int)
     ·rw [decide_eq_true c3,if_pos rfl,Bool.and_true]
     ·rw [decide_eq_false c3,if_neg (by simp),Bool.and_false]
    ·simp only [Bool.and_eq_true,List.all_eq_true,decide_eq_true_eq] at h
     refine ⟨R,C,hR,hC,by omega,by omega,by omega,hp,fun x hx=>?_⟩
     have:=h.1 x hx
     omega
   ·exact ⟨false,by simp [c1,c2],by simp [c1,c2],fun h=>by cases h⟩
  ·exact ⟨false,by simp [c1],by simp [c1],fun h=>by cases h⟩
abbrev She:=Cx×Int×List Int×List Mat
def ofC (c:Cx) (d:Int):List Nat:=(List.range c.length).filter fun i=>match c[i]? with | some s=>decide ((s.length:Int)=d+1) | none=>false
theorem zfy_ {c:Cx} {d:Int} {i:Nat} (h:i∈ofC c d):i<c.length:=List.mem_range.1 (List.mem_filter.1 h).1
theorem zo9_ (c:Cx) (d:Int):(ofC c d).length≤c.length:=by
 unfold ofC
 exact Nat.le_trans (List.length_filter_le ..) (by rw [List.length_range]; exact Nat.le_refl _)
theorem zfz_ (f:Nat→Bool) (n:Nat):(List.range (n+1)).filter f=(List.range n).filter f++(if f n=true then [n] else []):=by
 rw [List.range_succ,List.filter_append,List.filter_cons,List.filter_nil]
theorem zu3_ {k:Nat} (hk:KK≤k) {c:Cx} (hc:z2n_ c) {d:Int} (hd : -1000≤d∧d≤1000):z9f_ k c d=some ((ofC c d).map fun i:Nat=>(i:Int)):=by
 have hK:=zj_
 have hL:=z2b_
 obtain ⟨hcl,hce⟩:=hc
 have hwd:z0_ (d+1)=d+1:=w_id (by omega) (by omega)
 unfold z9f_
 have:=z2c_ (α:=List Int) (A:=List Int) (L:=fun n i q=>z75_ k n c d i q (fun q_4=>some q_4)) (I:=fun pre q=>q=((List.range pre.length).filter fun i=>match c[i]? with | some s=>decide ((s.length:Int)=d+1) | none=>false).map fun i:Nat=>(i:Int)) (G:=fun _ _=>some ((ofC c d).map fun i:Nat=>(i:Int))) c ?_ ?_ k (by omega) [] (by simp)
 ·exact this
 ·intro n pre x post q hx hq ih hg hlt
  have hw:=zi_ (i:=pre.length) (by omega)
  have hql:q.length≤pre.length:=by rw [hq,List.length_map]; exact Nat.le_trans (List.length_filter_le ..) (by rw [List.length_range]; exact Nat.le_refl _)
  have hlim:(q.length+1)*8≤LIM:=by omega
  simp only [z75_,hlt,decide_true,if_true,Int.natCast_nonneg,Int.toNat_natCast,hg,Option.bind_some,hw,hwd,List.length_singleton,hlim]
  by_cases hb:(x.length:Int)=d+1
  ·rw [decide_eq_true hb,if_pos rfl]
   refine ih _ ?_
   rw [List.length_append,List.length_singleton,zfz_,hg]
   simp only [hb,decide_true,if_true,List.map_append,hq,List.map_cons,List.map_nil]
  ·rw [decide_eq_false hb,if_neg (by simp)]
   refine ih _ ?_
   rw [List.length_append,List.length_singleton,zfz_,hg]
   simp only [hb,decide_false,Bool.false_eq_true,if_false,List.append_nil,hq]
 ·intro n q hq
  simp only [z75_,Int.lt_irrefl,decide_false,Bool.false_eq_true,if_false,hq]
  rfl
theorem zu4_ {k:Nat} (hk:KK≤k) {c:Cx} (hc:z2n_ c) {d:Int} (hd : -1000≤d∧d≤1000):zfs_ k c d=some ((ofC c d).map fun i:Nat=>(i:Int)):=by
 have hK:=zj_
 have hL:=z2b_
 obtain ⟨hcl,hce⟩:=hc
 have hwd:z0_ (d+1)=d+1:=w_id (by omega) (by omega)
 unfold zfs_
 have:=z2c_ (α:=List Int) (A:=List Int) (L:=fun n i q=>z7g_ k n d c (c.length:Int) i q (fun q_4=>some q_4)) (I:=fun pre q=>q=((List.range pre.length).filter fun i=>match c[i]? with | some s=>decide ((s.length:Int)=d+1) | none=>false).map fun i:Nat=>(i:Int)) (G:=fun _ _=>some ((ofC c d).map fun i:Nat=>(i:Int))) c ?_ ?_ k (by omega) [] (by simp)
 ·exact this
 ·intro n pre x post q hx hq ih hg hlt
  have hw:=zi_ (i:=pre.length) (by omega)
  have hql:q.length≤pre.length:=by rw [hq,List.length_map]; exact Nat.le_trans (List.length_filter_le ..) (by rw [List.length_range]; exact Nat.le_refl _)
  have hlim:(q.length+1)*8≤LIM:=by omega
  simp only [z7g_,z6x_,hlt,decide_true,if_true,Int.natCast_nonneg,Int.toNat_natCast,hg,Option.bind_some,hw,hwd,List.length_singleton,hlim]
  by_cases hb:(x.length:Int)=d+1
  ·rw [decide_eq_true hb,if_pos rfl]
   refine ih _ ?_
   rw [List.length_append,List.length_singleton,zfz_,hg]
   simp only [hb,decide_true,if_true,List.map_append,hq,List.map_cons,List.map_nil]
  ·rw [decide_eq_false hb,if_neg (by simp)]
   refine ih _ ?_
   rw [List.length_append,List.length_singleton,zfz_,hg]
   simp only [hb,decide_false,Bool.false_eq_true,if_false,List.append_nil,hq]
 ·intro n q hq
  simp only [z7g_,Int.lt_irrefl,decide_false,Bool.false_eq_true,if_false,hq]
  rfl
structure StP (c:Cx) (st:List Int):Prop where
 len:st.length=c.length
 val:∀ x∈st,0≤x∧x≤3
def zv_ (st:List Int) (l:List Nat):Int:=(l.map fun i=>st.getD i 0).sum
theorem zoa_ (st:List Int) (l:List Nat) (i:Nat):zv_ st (l++[i])=zv_ st l+st.getD i 0:=by unfold zv_; simp
theorem z7k_ {c:Cx} {st:List Int} (h:StP c st) {i:Nat} (hi:i<c.length):st[i]?=some (st.getD i 0)∧0≤st.getD i 0∧st.getD i 0≤3:=by
 have hl:i<st.length:=by rw [h.len]; exact hi
 have e:st.getD i 0=st[i]:=by rw [List.getD_eq_getElem?_getD,List.getElem?_eq_getElem hl]; rfl
 rw [e]
 exact ⟨List.getElem?_eq_getElem hl,h.val _ (List.getElem_mem hl)⟩
theorem zjo_ {c:Cx} {st:List Int} (h:StP c st):∀ (l:List Nat),(∀ i∈l,i<c.length)→0≤zv_ st l∧zv_ st l≤3*l.length
 | [],_=>by simp [zv_]
 | i::l,hl=>by
  have ih:=zjo_ h l (fun j hj=>hl j (by simp [hj]))
  have:=z7k_ h (hl i (by simp))
  have e:zv_ st (i::l)=st.getD i 0+zv_ st l:=by unfold zv_; simp
  rw [e,List.length_cons]
  omega
theorem zjp_ {k:Nat} (hk:KK≤k) {c:Cx} (hc:z2n_ c) {st:List Int} (h:StP c st) {d:Int} (hd : -1000≤d∧d≤1000):z64_ k c st d=some (zv_ st (ofC c d)):=by
 have hK:=zj_
 have hol:=zo9_ c d
 have hcl:=hc.1
 unfold z64_
 rw [zu3_ hk hc hd]
 simp only [Option.bind_some]
 have:=z2c_ (α:=Nat) (A:=Int) (L:=fun n i z=>z9g_ k n st z i ((ofC c d).map fun i:Nat=>(i:Int)) (fun z=>some z)) (I:=fun pre z=>z=zv_ st pre) (G:=fun _ _=>some (zv_ st (ofC c d))) (ofC c d) ?_ ?_ k (by omega) 0 rfl
 ·exact this
 ·intro n pre x post z hx hz ih hg hlt
  have hw:=zi_ (i:=pre.length) (by omega)
  have hxc:x<c.length:=zfy_ (by rw [hx]; simp:x∈ofC c d)
  have hF:((ofC c d).map fun i:Nat=>(i:Int))[pre.length]?=some (x:Int):=by rw [List.getElem?_map,hg]; rfl
  have hpl:pre.length<(ofC c d).length:=by omega
  obtain ⟨s1,s2,s3⟩:=z7k_ h hxc
  have hb:=zjo_ h pre (fun j hj=>zfy_ (by rw [hx]; simp [hj]:j∈ofC c d))
  have hwz:z0_ (z+st.getD x 0)=z+st.getD x 0:=w_id (by omega) (by omega)
  simp only [z9g_,List.length_map,hlt,hpl,decide_true,if_true,Int.natCast_nonneg,Int.toNat_natCast,and_self,hF,s1,Option.bind_some,hw,hwz]
  exact ih _ (by rw [zoa_,hz])
 ·intro n z hz
  simp only [z9g_,List.length_map,Int.lt_irrefl,decide_false,Bool.false_eq_true,if_false,hz]
theorem zjq_ {k:Nat} (hk:KK≤k) {s:She} (hc:z2n_ s.1) (h:StP s.1 s.2.2.1) {d:Int} (hd : -1000≤d∧d≤1000):z8r_ k s d=some (zv_ s.2.2.1 (ofC s.1 d)):=by
 have hK:=zj_
 have hol:=zo9_ s.1 d
 have hcl:=hc.1
 unfold z8r_
 rw [zu4_ hk hc hd]
 simp only [Option.bind_some,List.length_map]
 have:=z2c_ (α:=Nat) (A:=Int) (L:=fun n i z=>z9x_ k n z ((ofC s.1 d).length:Int) i ((ofC s.1 d).map fun i:Nat=>(i:Int)) s (fun z=>some z)) (I:=fun pre z=>z=zv_ s.2.2.1 pre) (G:=fun _ _=>some (zv_ s.2.2.1 (ofC s.1 d))) (ofC s.1 d) ?_ ?_ k (by omega) 0 rfl
 ·exact this
 ·intro n pre x post z hx hz ih hg hlt
  have hw:=zi_ (i:=pre.length) (by omega)
  have hxc:x<s.1.length:=zfy_ (by rw [hx]; simp:x∈ofC s.1 d)
  have hF:((ofC s.1 d).map fun i:Nat=>(i:Int))[pre.length]?=some (x:Int):=by rw [List.getElem?_map,hg]; rfl
  have hpl:pre.length<(ofC s.1 d).length:=by omega
  obtain ⟨s1,s2,s3⟩:=z7k_ h hxc
  have hb:=zjo_ h pre (fun j hj=>zfy_ (by rw [hx]; simp [hj]:j∈ofC s.1 d))
  have hwz:z0_ (z+s.2.2.1.getD x 0)=z+s.2.2.1.getD x 0:=w_id (by omega) (by omega)
  simp only [z9x_,List.length_map,hlt,hpl,decide_true,if_true,Int.natCast_nonneg,Int.toNat_natCast,and_self,hF,s1,Option.bind_some,hw,hwz]
  exact ih _ (by rw [zoa_,hz])
 ·intro n z hz
  simp only [z9x_,Int.lt_irrefl,decide_false,Bool.false_eq_true,if_false,hz]
noncomputable instance stP_dec (c:Cx) (st:List Int):Decidable (StP c st):=Classical.propDecidable _
noncomputable def stB (c:Cx) (st:List Int):Bool:=decide (StP c st)&&(List.range 4).all fun d=>decide (zv_ st (ofC c (d:Int))≤32)
theorem zjr_ {c:Cx} {st:List Int} (h:stB c st=true):StP c st:=by
 unfold stB at h
 rw [Bool.and_eq_true,decide_eq_true_eq] at h
 exact h.1
theorem zob_ {c:Cx} {st:List Int}:(st.all (fun x=>decide (0≤x∧x≤4-1))&&decide ((st.length:Int)=(c.length:Int)))=true↔StP c st:=by
 simp only [Bool.and_eq_true,List.all_eq_true,decide_eq_true_eq]
 exact ⟨fun h=>⟨by omega,fun x hx=>by have:=h.1 x hx; omega⟩,fun h=>⟨fun x hx=>by have:=h.val x hx; omega,by have:=h.len; omega⟩⟩
theorem zu5_ {k:Nat} (hk:KK≤k) {c:Cx} (hc:z2n_ c) {st:List Int} (hs:st.length≤1048576):zf4_ k c st=some (stB c st):=by
 have hK:=zj_
 unfold zf4_
 rw [zbp_ hk hs _ (by omega)]
 simp only [Option.bind_some]
 by_cases h:StP c st
 ·rw [zob_.2 h]
  simp only [Bool.not_true,Bool.false_eq_true,if_false]
  have:=z3q_ (L:=fun n i=>z9h_ k n c st i (some true)) (b:=4) (p:=fun d:Nat=>decide (zv_ st (ofC c (d:Int))≤32)) (r:=some false) (e:=some true) ?_ ?_ (n:=k) (by omega)
  ·rw [this]
   unfold stB
   rw [decide_eq_true h,Bool.true_and]
   cases (List.range 4).all fun d=>decide (zv_ st (ofC c (d:Int))≤32) <;> rfl
  ·intro n i hi
   have hlt:(i:Int)≤3:=by omega
   have hw:=zi_ (i:=i) (by omega)
   simp only [z9h_,hlt,decide_true,if_true,zjp_ hk hc h (d:=(i:Int)) (by omega),Option.bind_some,hw]
   by_cases c1:zv_ st (ofC c (i:Int))≤32
   ·rw [decide_eq_true c1,decide_eq_false (by omega),if_neg (by simp),if_pos rfl]
   ·rw [decide_eq_false c1,decide_eq_true (by omega),if_pos rfl,if_neg (by simp)]
  ·intro n
   have:¬ (((4:Nat):Int)≤3):=by omega
   simp only [z9h_,this,decide_false,Bool.false_eq_true,if_false]
 ·have h2:(st.all (fun x=>decide (0≤x∧x≤4-1))&&decide ((st.length:Int)=(c.length:Int)))=false:=by rw [Bool.eq_false_iff,ne_eq,zob_]; exact h
  rw [h2,if_pos (by simp)]
  unfold stB
  rw [decide_eq_false h]; rfl
theorem zu6_ {k:Nat} (hk:KK≤k) {c:Cx} (hc:z2n_ c) {st:List Int} (hs:st.length≤1048576):ze3_ k c st=some (stB c st):=by
 have hK:=zj_
 have hcf:zfr_ k st ()=some (st.any fun x=>!decide (0≤x∧x≤3)):=by
  unfold zfr_ zjh_
  rw [z8f_ (L:=fun n i=>z9w_ k n st () (st.length:Int) i (some (-1))) (p:=fun x=>!decide (0≤x∧x≤3)) st ?_ ?_ (n:=k) (by omega)]
  ·rw [Option.bind_some,zbm_]
  ·intro n i x hi hlt
   have hw:=zi_ (i:=i) (by omega)
   simp only [z9w_,zjg_,z45_,hlt,decide_true,if_true,Int.natCast_nonneg,Int.toNat_natCast,hi,Option.bind_some,hw]
  ·intro n
   simp [z9w_]
 unfold ze3_
 rw [hcf]
 simp only [Option.bind_some]
 by_cases hl:st.length=c.length
 ·rw [decide_eq_true (show (st.length:Int)=(c.length:Int) by omega),if_neg (by simp)]
  by_cases hv:∀ x∈st,0≤x∧x≤3
  ·have h:StP c st:=⟨hl,hv⟩
   have ha:(st.any fun x=>!decide (0≤x∧x≤3))=false:=by
    rw [List.any_eq_false]; intro x hx; simp [hv x hx]
   rw [ha,if_neg (by simp)]
   have:=z3q_ (L:=fun n i=>z9y_ k n st i c (some true)) (b:=4) (p:=fun d:Nat=>decide (zv_ st (ofC c (d:Int))≤32)) (r:=some false) (e:=some true) ?_ ?_ (n:=k) (by omega)
   ·rw [this]
    unfold stB
    rw [decide_eq_true h,Bool.true_and]
    cases (List.range 4).all fun d=>decide (zv_ st (ofC c (d:Int))≤32) <;> rfl
   ·intro n i hi
    have hlt:(i:Int)<4:=by omega
    have hw:=zi_ (i:=i) (by omega)
    have hst:=zjq_ hk (s:=(c,0,st,[])) hc h (d:=(i:Int)) (by omega)
    simp only at hst
    simp only [z9y_,hlt,decide_true,if_true,hst,Option.bind_some,hw]
    by_cases c1:zv_ st (ofC c (i:Int))≤32
    ·rw [decide_eq_true c1,decide_eq_false (by omega),if_neg (by simp),if_pos rfl]
    ·rw [decide_eq_false c1,decide_eq_true (by omega),if_pos rfl,if_neg (by simp)]
   ·intro n
    have:¬ (((4:Nat):Int)<4):=by omega
    simp only [z9y_,this,decide_false,Bool.false_eq_true,if_false]
  ·have ha:(st.any fun x=>!decide (0≤x∧x≤3))=true:=by
    rw [List.any_eq_true]
    apply Classical.byContradiction
    intro hn
    apply hv
    intro x hx
    apply Classical.byContradiction
    intro hx2
    exact hn ⟨x,hx,by simp only [Bool.not_eq_true',decide_eq_false_iff_not]; exact hx2⟩
   rw [ha,if_pos rfl]
   unfold stB
   rw [decide_eq_false (fun h:StP c st=>hv h.val)]; rfl
 ·rw [decide_eq_false (show ¬ (st.length:Int)=(c.length:Int) by omega),if_pos (by simp)]
  unfold stB
  rw [decide_eq_false (fun h:StP c st=>hl h.len)]; rfl
def zr_ (c:Cx) (s:List Int):List Nat:=(z1h_ s).map (posC c)
theorem zoc_ (s:List Int):(z1h_ s).length=if 1<s.length then s.length else 0:=by
 unfold z1h_
 split
 ·rw [List.length_map,List.length_range]
 ·rfl
theorem zjs_ (c:Cx) (s:List Int):(zr_ c s).length=if 1<s.length then s.length else 0:=by unfold zr_; rw [List.length_map,zoc_]
theorem zod_ {c:Cx} (h:CxP c) {s:List Int} (hs:s∈c) {f:Nat} (hf:f∈zr_ c s):f<c.length:=by
 unfold zr_ at hf
 obtain ⟨g,hg,rfl⟩:=List.mem_map.1 hf
 obtain ⟨h1,j,hj,rfl⟩:=zbo_.1 hg
 exact z5f_.2 (h.face s hs h1 j hj)
theorem zg0_ {c:Cx} (h:CxP c):z2n_ c:=⟨by have:=h.len; omega,fun s hs=>by have:=(h.simp s hs).len4; omega⟩
theorem zu7_ {k:Nat} (hk:KK≤k) {c:Cx} (h:CxP c) {j:Nat} {s:List Int} (hj:c[j]?=some s):z9j_ k c (j:Int)=some ((zr_ c s).map fun i:Nat=>(i:Int)):=by
 have hK:=zj_
 have hL:=z2b_
 have hm:=List.mem_of_getElem? hj
 have hs4:=(h.simp s hm).len4
 have hsc:=zg0_ h
 unfold z9j_
 rw [if_pos (Int.natCast_nonneg _),Int.toNat_natCast,hj]
 simp only [Option.bind_some]
 by_cases c1:1<s.length
 ·have:=z2c_ (α:=Nat) (A:=List Int) (L:=fun n i q=>z77_ k n c s i q (fun q_5=>some q_5)) (I:=fun pre q=>q=(List.range pre.length).map fun i=>((posC c (z1q_ s i):Nat):Int)) (G:=fun _ _=>some ((zr_ c s).map fun i:Nat=>(i:Int))) (List.range s.length) ?_ ?_ k (by simp; omega) [] (by simp)
  ·exact this
  ·intro n pre x post q hx hq ih hg hlt
   rw [List.length_range] at hlt
   have hpl:pre.length<s.length:=by omega
   have hw:=zi_ (i:=pre.length) (by omega)
   have hlim:(q.length+1)*8≤LIM:=by rw [hq,List.length_map,List.length_range]; omega
   have hin:=h.face s hm c1 pre.length hpl
   have c1':(1:Int)<(s.length:Int):=by omega
   simp only [z77_,hlt,c1',decide_true,if_true,zny_ (show s.length≤1048576 by omega) hpl,zo0_ hk hsc,z5f_.2 hin,Option.bind_some,List.length_singleton,hlim,hw]
   refine ih _ ?_
   rw [hq,List.length_append,List.length_singleton,List.range_succ,List.map_append]
   rfl
  ·intro n q hq
   rw [List.length_range] at hq ⊢
   simp only [z77_,Int.lt_irrefl,decide_false,Bool.false_eq_true,if_false,hq]
   unfold zr_ z1h_
   rw [if_pos c1,List.map_map,List.map_map]
   rfl
 ·obtain ⟨n,hn⟩:∃ n,k=n+1:=⟨k-1,by omega⟩
  have c1':¬ (1:Int)<(s.length:Int):=by omega
  conv=>lhs; arg 2; rw [hn]
  simp only [z77_,c1',decide_false,Bool.false_eq_true,if_false]
  unfold zr_ z1h_
  rw [if_neg c1]
  split <;> rfl
theorem zu8_ {k:Nat} (hk:KK≤k) {c:Cx} (h:CxP c) {j:Nat} {s:List Int} (hj:c[j]?=some s):zft_ k c (j:Int)=some ((zr_ c s).map fun i:Nat=>(i:Int)):=by
 have hK:=zj_
 have hL:=z2b_
 have hm:=List.mem_of_getElem? hj
 have hs4:=(h.simp s hm).len4
 have hsc:=zg0_ h
 have hfl:=zoc_ s
 have hfl':(z1h_ s).length≤4:=by rw [hfl]; split <;> omega
 unfold zft_
 rw [if_pos (Int.natCast_nonneg _),Int.toNat_natCast,hj]
 simp only [Option.bind_some,zo2_ hk (show s.length≤1048576 by omega)]
 have:=z2c_ (α:=List Int) (A:=List Int) (L:=fun n i q=>z9z_ k n ((z1h_ s).length:Int) i q (z1h_ s) c (fun q_8=>some q_8)) (I:=fun pre q=>q=pre.map fun f=>((posC c f:Nat):Int)) (G:=fun _ _=>some ((zr_ c s).map fun i:Nat=>(i:Int))) (z1h_ s) ?_ ?_ k (by omega) [] rfl
 ·exact this
 ·intro n pre x post q hx hq ih hg hlt
  have hpl:pre.length<(z1h_ s).length:=by omega
  have hw:=zi_ (i:=pre.length) (by omega)
  have hlim:(q.length+1)*8≤LIM:=by rw [hq,List.length_map]; omega
  obtain ⟨h1,i,hi,rfl⟩:=zbo_.1 (List.mem_of_getElem? hg)
  have hin:=h.face s hm h1 i hi
  simp only [z9z_,hlt,hpl,decide_true,if_true,Int.natCast_nonneg,Int.toNat_natCast,and_self,hg,zo5_ hk hsc h.ord (show (z1q_ s i).length≤1048576 by rw [zjn_ hi]; omega),z5f_.2 hin,Option.bind_some,List.length_singleton,hlim,hw]
  exact ih _ (by rw [hq,List.map_append]; rfl)
 ·intro n q hq
  simp only [z9z_,Int.lt_irrefl,decide_false,Bool.false_eq_true,if_false,hq]
  unfold zr_
  rw [List.map_map]
  rfl
def z1s_ (c:Cx) (j:Nat):List (Nat×Nat×Nat):=match c[j]? with
 | some s=>(List.range (zr_ c s).length).map fun i=>(j,i,(zr_ c s).getD i 0)
 | none=>[]
def arrN (c:Cx) (n:Nat):List (Nat×Nat×Nat):=(List.range n).flatMap (z1s_ c)
theorem za2_ (c:Cx) (n:Nat):arrN c (n+1)=arrN c n++z1s_ c n:=by unfold arrN; rw [List.range_succ,List.flatMap_append]; simp
theorem zjt_ {c:Cx} {j:Nat} {s:List Int} (hj:c[j]?=some s):(z1s_ c j).length=if 1<s.length then s.length else 0:=by
 unfold z1s_; rw [hj]; simp only [List.length_map,List.length_range,zjs_]
theorem zu9_ {c:Cx} {j i:Nat} {s:List Int} (hj:c[j]?=some s) (hi:i<(zr_ c s).length):(z1s_ c j)[i]?=some (j,i,(zr_ c s).getD i 0):=by
 unfold z1s_; rw [hj]; simp only [List.getElem?_map,List.getElem?_range hi]; rfl
theorem z7l_ {c:Cx} (h:CxP c):∀ n,n≤c.length→(arrN c n).length≤4*n
 | 0,_=>by simp [arrN]
 | n+1,hn=>by
  have ih:=z7l_ h n (by omega)
  have hg:c[n]?=some c[n]:=List.getElem?_eq_getElem (by omega)
  have h4:=(h.simp _ (List.mem_of_getElem? hg)).len4
  rw [za2_,List.length_append,zjt_ hg]
  split <;> omega
theorem zua_ (c:Cx) {a b:Nat} (h:a≤b):(arrN c a).length≤(arrN c b).length:=by
 induction b with
 | zero=>rw [show a=0 by omega]; exact Nat.le_refl _
 | succ b ih =>
  by_cases e:a=b+1
  ·rw [e]; exact Nat.le_refl _
  ·have:=ih (by omega)
   rw [za2_,List.length_append]; omega
theorem zoe_ {k:Nat} (hk:KK≤k) {c:Cx} (h:CxP c) {j i:Nat} (hj:j≤c.length) (hi:i≤4):z9i_ k c (j:Int) (i:Int)=some (((arrN c j).length+i:Nat):Int):=by
 have hK:=zj_
 have hcl:=h.len
 unfold z9i_
 have:=z2c_ (α:=Nat) (A:=Int) (L:=fun n p z=>z76_ k n c (j:Int) (i:Int) z p (fun i_3 at_4=>some (z0_ (at_4+i_3)))) (I:=fun pre z=>z=((arrN c pre.length).length:Int)) (G:=fun _ _=>some (((arrN c j).length+i:Nat):Int)) (List.range j) ?_ ?_ k (by simp; omega) 0 rfl
 ·exact this
 ·intro n pre x post z hx hz ih hg hlt
  rw [List.length_range] at hlt
  have hpl:pre.length<c.length:=by omega
  have hw:=zi_ (i:=pre.length) (by omega)
  have hgc:c[pre.length]?=some c[pre.length]:=List.getElem?_eq_getElem hpl
  have h4:=(h.simp _ (List.mem_of_getElem? hgc)).len4
  have hal:=z7l_ h pre.length (by omega)
  have hnx:(arrN c (pre.length+1)).length=(arrN c pre.length).length+(if 1<(c[pre.length]).length then (c[pre.length]).length else 0):=by rw [za2_,List.length_append,zjt_ hgc]
  simp only [z76_,hlt,decide_true,if_true,Int.natCast_nonneg,Int.toNat_natCast,hgc,Option.bind_some,hw]
  by_cases c1:1<(c[pre.length]).length
  ·have hwz:z0_ (z+((c[pre.length]).length:Int))=z+((c[pre.length]).length:Int):=w_id (by omega) (by omega)
   rw [decide_eq_true (by omega),if_pos rfl,hwz]
   refine ih _ ?_
   rw [if_pos c1] at hnx
   rw [List.length_append,List.length_singleton,hnx,hz]; rfl
  ·rw [decide_eq_false (by omega),if_neg (by simp)]
   refine ih _ ?_
   rw [if_neg c1] at hnx
   rw [List.length_append,List.length_singleton,hnx,hz]; rfl
 ·intro n z hz
  rw [List.length_range] at hz ⊢
  have hal:=z7l_ h j hj
  have hwz:z0_ (z+(i:Int))=(((arrN c j).length+i:Nat):Int):=by rw [w_id (by omega) (by omega)]; omega
  simp only [z76_,Int.lt_irrefl,decide_false,Bool.false_eq_true,if_false,hwz]
def toI3 (a:Nat×Nat×Nat):Int×Int×Int:=((a.1:Int),(a.2.1:Int),(a.2.2:Int))
theorem zub_ {k:Nat} (hk:KK≤k) {c:Cx} (h:CxP c):ze4_ k c=some ((arrN c c.length).map toI3):=by
 have hK:=zj_
 have hL:=z2b_
 have hcl:=h.len
 unfold ze4_ zji_
 simp only [Option.bind_some]
 have:=z2c_ (α:=List Int) (A:=List (Int×Int×Int)) (L:=fun n i q=>za0_ k n (c.length:Int) i q c (fun q_8=>some q_8)) (I:=fun pre q=>q=(arrN c pre.length).map toI3) (G:=fun _ _=>some ((arrN c c.length).map toI3)) c ?_ ?_ k (by omega) [] rfl
 ·exact this
 ·intro n pre x post q hx hq ih hg hlt
  have hw:=zi_ (i:=pre.length) (by omega)
  have hpl:pre.length<c.length:=by omega
  have h4:=(h.simp _ (List.mem_of_getElem? hg)).len4
  have hal:=z7l_ h pre.length (by omega)
  have hfl:=zjs_ c x
  have hfl4:(zr_ c x).length≤4:=by rw [hfl]; split <;> omega
  simp only [za0_,hlt,decide_true,if_true,zu8_ hk h hg,Option.bind_some,List.length_map]
  have inner:∀ E:Int→Int→List (Int×Int×Int)→Cx→Option (List (Int×Int×Int)),z7h_ k k (pre.length:Int) (c.length:Int) (pre.length:Int) ((zr_ c x).length:Int) 0 q ((zr_ c x).map fun i:Nat=>(i:Int)) c E=E (c.length:Int) (pre.length:Int) ((arrN c (pre.length+1)).map toI3) c:=by
   intro E
   have:=z2c_ (α:=Nat) (A:=List (Int×Int×Int)) (L:=fun n i r=>z7h_ k n (pre.length:Int) (c.length:Int) (pre.length:Int) ((zr_ c x).length:Int) i r ((zr_ c x).map fun i:Nat=>(i:Int)) c E) (I:=fun pre2 r=>r=((arrN c pre.length)++(List.range pre2.length).map fun i=>(pre.length,i,(zr_ c x).getD i 0)).map toI3) (G:=fun _ _=>E (c.length:Int) (pre.length:Int) ((arrN c (pre.length+1)).map toI3) c) (zr_ c x) ?_ ?_ k (by omega) q (by simp [hq])
   ·exact this
   ·intro n pre2 f post2 r hx2 hr ih2 hg2 hlt2
    have hpl2:pre2.length<(zr_ c x).length:=by omega
    have hw2:=zi_ (i:=pre2.length) (by omega)
    have hF:((zr_ c x).map fun i:Nat=>(i:Int))[pre2.length]?=some (f:Int):=by rw [List.getElem?_map,hg2]; rfl
    have hlim:(r.length+1)*24≤LIM:=by rw [hr,List.length_map,List.length_append,List.length_map,List.length_range]; omega
    have hgd:(zr_ c x).getD pre2.length 0=f:=by rw [List.getD_eq_getElem?_getD,hg2]; rfl
    simp only [z7h_,List.length_map,hlt2,hpl2,decide_true,if_true,Int.natCast_nonneg,Int.toNat_natCast,and_self,hF,Option.bind_some,List.length_singleton,hlim,hw2]
    refine ih2 _ ?_
    rw [hr,List.length_append,List.length_singleton,List.range_succ,List.map_append (l₁:=List.range pre2.length),← List.append_assoc,List.map_append (f:=toI3) (l₁:=arrN c pre.length++_)]
    show _=_++[toI3 (pre.length,pre2.length,(zr_ c x).getD pre2.length 0)]
    rw [hgd]; rfl
   ·intro n r hr
    have e:z1s_ c pre.length=(List.range (zr_ c x).length).map fun i=>(pre.length,i,(zr_ c x).getD i 0):=by unfold z1s_; rw [hg]
    simp only [z7h_,Int.lt_irrefl,decide_false,Bool.false_eq_true,if_false,hr]
    rw [za2_,e]
  rw [inner,hw]
  exact ih _ (by rw [List.length_append,List.length_singleton])
 ·intro n q hq
  simp only [za0_,Int.lt_irrefl,decide_false,Bool.false_eq_true,if_false,hq]
noncomputable def matB (k:Nat) (m:Mat):Bool:=(z9k_ k m).getD false
theorem zof_ {k:Nat} (hk:KK≤k) {m:Mat} (hv:m.2.2.2.length≤1048576):z9k_ k m=some (matB k m)∧zb8_ k m=some (matB k m)∧(matB k m=true→∃ R C,MatP m R C):=by
 obtain ⟨b,h1,h2,h3⟩:=zu2_ hk hv
 have e:matB k m=b:=by unfold matB; rw [h1]; rfl
 rw [e]
 exact ⟨h1,h2,h3⟩
noncomputable def z6a_ (k:Nat) (p:Int):Bool:=(z74_ k p).getD false
theorem zju_ {k:Nat} (hk:KK≤k) (p:Int):z74_ k p=some (z6a_ k p)∧z8o_ k p=some (z6a_ k p)∧(z6a_ k p=true→2≤p∧p≤251):=by
 obtain ⟨b,h1,h2,h3⟩:=zo7_ hk p
 have e:z6a_ k p=b:=by unfold z6a_; rw [h1]; rfl
 rw [e]
 exact ⟨h1,h2,h3⟩
noncomputable def okA (k:Nat) (s:She) (a:Nat×Nat×Nat) (m:Mat):Bool:=matB k m&&(decide (m.1=s.2.1)&&(decide (m.2.1=s.2.2.1.getD a.1 0)&&decide (m.2.2.1=s.2.2.1.getD a.2.2 0)))
noncomputable def chk1 (k:Nat) (s:She) (o:Nat) (l:List (Nat×Nat×Nat)) (i:Nat):Bool:=match l[i]? with
 | some a=>(match s.2.2.2[o+i]? with | some m=>okA k s a m | none=>false)
 | none=>true
def chk (k:Nat) (s:She) (o:Nat) (l:List (Nat×Nat×Nat)):Prop:=∀ j a,l[j]?=some a→∃ m,s.2.2.2[o+j]?=some m∧okA k s a m=true
theorem zog_ {k:Nat} {s:She} {o:Nat} {l:List (Nat×Nat×Nat)}:(List.range l.length).all (chk1 k s o l)=true↔chk k s o l:=by
 simp only [List.all_eq_true,List.mem_range]
 constructor
 ·intro z i a ha
  have:=z i (List.getElem?_eq_some_iff.1 ha).1
  unfold chk1 at this
  rw [ha] at this
  cases hm:s.2.2.2[o+i]? with
  | none=>rw [hm] at this; cases this
  | some m=>rw [hm] at this; exact ⟨m,rfl,this⟩
 ·intro z i hi
  obtain ⟨m,h1,h2⟩:=z i _ (List.getElem?_eq_getElem hi)
  unfold chk1
  rw [List.getElem?_eq_getElem hi,h1]
  exact h2
theorem zuc_ {k:Nat} {s:She} {o:Nat} {l r:List (Nat×Nat×Nat)}:chk k s o (l++r)↔chk k s o l∧chk k s (o+l.length) r:=by
 constructor
 ·intro h
  refine ⟨fun j a hj=>h j a (by rw [List.getElem?_append_left (List.getElem?_eq_some_iff.1 hj).1]; exact hj),fun j a hj=>?_⟩
  have:=h (l.length+j) a (by rw [List.getElem?_append_right (by omega),Nat.add_sub_cancel_left]; exact hj)
  rwa [← Nat.add_assoc] at this
 ·rintro ⟨h1,h2⟩ j a hj
  by_cases c:j<l.length
  ·rw [List.getElem?_append_left c] at hj; exact h1 j a hj
  ·rw [List.getElem?_append_right (by omega)] at hj
   have:=h2 (j-l.length) a hj
   rwa [show o+l.length+(j-l.length)=o+j by omega] at this
theorem zoh_ {k:Nat} {s:She}:∀ n,(∀ j,j<n→chk k s (arrN s.1 j).length (z1s_ s.1 j))↔chk k s 0 (arrN s.1 n)
 | 0=>by
  constructor
  ·intro _ j a hj; simp [arrN] at hj
  ·intro _ j hj; omega
 | n+1=>by
  rw [za2_,zuc_,← zoh_ n,Nat.zero_add]
  constructor
  ·intro h; exact ⟨fun j hj=>h j (by omega),h n (by omega)⟩
  ·rintro ⟨h1,h2⟩ j hj
   by_cases e:j=n
   ·subst e; exact h2
   ·exact h1 j (by omega)
open Classical in
noncomputable def sheB (k:Nat) (s:She):Bool:=cxB s.1&&(z6a_ k s.2.1&&(stB s.1 s.2.2.1&&decide (s.2.2.2.length=(arrN s.1 s.1.length).length∧chk k s 0 (arrN s.1 s.1.length))))
structure smallSh (s:She):Prop where
 cx:z2n_ s.1
 st:s.2.2.1.length≤1048576
 maps:s.2.2.2.length≤1048576
 cells:∀ m∈s.2.2.2,m.2.2.2.length≤1048576
theorem zud_ {c:Cx} (h:CxP c) {n j:Nat} {a:Nat×Nat×Nat} (hn:n≤c.length) (hj:(arrN c n)[j]?=some a):a.1<c.length∧a.2.2<c.length:=by
 have hm:=List.mem_of_getElem? hj
 unfold arrN at hm
 obtain ⟨i,hi,ha⟩:=List.mem_flatMap.1 hm
 rw [List.mem_range] at hi
 have hg:c[i]?=some c[i]:=List.getElem?_eq_getElem (by omega)
 unfold z1s_ at ha
 rw [hg] at ha
 obtain ⟨p,hp,rfl⟩:=List.mem_map.1 ha
 rw [List.mem_range] at hp
 refine ⟨by show i<_; omega,zod_ h (List.mem_of_getElem? hg) ?_⟩
 show (zr_ c c[i]).getD p 0∈_
 rw [List.getD_eq_getElem?_getD,List.getElem?_eq_getElem hp]
 exact List.getElem_mem hp
open Classical in
theorem zue_ {k:Nat} (hk:KK≤k) {s:She} (hs:smallSh s):zf6_ k s=some (sheB k s):=by
 have hK:=zj_
 unfold zf6_ sheB
 obtain ⟨p1,p2,p3⟩:=zju_ hk s.2.1
 rw [zty_ hk hs.cx,p1,zu5_ hk hs.cx hs.st]
 cases hcx:cxB s.1 with
 | false=>simp
 | true =>
 cases z6a_ k s.2.1 with
 | false=>simp
 | true =>
 cases hst:stB s.1 s.2.2.1 with
 | false=>simp
 | true =>
  have h:=z69_.1 hcx
  have hS:=zjr_ hst
  have hcl:=h.len
  have hal:=z7l_ h s.1.length (Nat.le_refl _)
  have hcount:zf5_ k s.1=some ((arrN s.1 s.1.length).length:Int):=by
   unfold zf5_
   have:=zoe_ hk h (j:=s.1.length) (i:=0) (Nat.le_refl _) (by omega)
   rw [Nat.add_zero] at this
   rw [show ((0:Nat):Int)=0 from rfl] at this
   rw [this]; rfl
  simp only [Option.bind_some,Bool.not_true,Bool.false_eq_true,if_false,hcount,Bool.true_and]
  by_cases hN:s.2.2.2.length=(arrN s.1 s.1.length).length
  ·rw [decide_eq_true (show (s.2.2.2.length:Int)=((arrN s.1 s.1.length).length:Int) by omega),if_neg (by simp)]
   have:=z3q_ (L:=fun n i=>z65_ k n s i (some true)) (b:=s.1.length) (p:=fun j=>decide (chk k s (arrN s.1 j).length (z1s_ s.1 j))) (r:=some false) (e:=some true) ?_ ?_ (n:=k) (by omega)
   ·rw [this]
    have e:((List.range s.1.length).all (fun j=>decide (chk k s (arrN s.1 j).length (z1s_ s.1 j)))=true)↔chk k s 0 (arrN s.1 s.1.length):=by
     rw [← zoh_]
     simp only [List.all_eq_true,List.mem_range,decide_eq_true_eq]
    by_cases q:chk k s 0 (arrN s.1 s.1.length)
    ·rw [if_pos (e.2 q),decide_eq_true ⟨hN,q⟩]
    ·rw [if_neg (fun z=>q (e.1 z)),decide_eq_false (fun z=>q z.2)]
   ·intro n j hj
    have hlt:(j:Int)<(s.1.length:Int):=by omega
    have hw:=zi_ (i:=j) (by omega)
    have hg:s.1[j]?=some s.1[j]:=List.getElem?_eq_getElem hj
    have hm:=List.mem_of_getElem? hg
    have h4:=(h.simp _ hm).len4
    have hbl:=zjt_ hg
    have hnx:(arrN s.1 (j+1)).length=(arrN s.1 j).length+(z1s_ s.1 j).length:=by rw [za2_,List.length_append]
    have hmono:=zua_ s.1 (show j+1≤s.1.length by omega)
    have haj:=z7l_ h j (by omega)
    have hfl:=zjs_ s.1 s.1[j]
    simp only [z65_,hlt,decide_true,if_true]
    have inner:=z3q_ (L:=fun m i=>z9l_ k m s (j:Int) i (fun s_5 k_6=>z65_ k n s_5 (z0_ (k_6+1)) (some true))) (b:=(z1s_ s.1 j).length) (p:=chk1 k s (arrN s.1 j).length (z1s_ s.1 j)) (r:=some false) (e:=z65_ k n s ((j+1:Nat):Int) (some true)) ?_ ?_ (n:=k) (by rw [hbl]; split <;> omega)
    ·refine Eq.trans inner ?_
     have e:=zog_ (k:=k) (s:=s) (o:=(arrN s.1 j).length) (l:=z1s_ s.1 j)
     by_cases q:chk k s (arrN s.1 j).length (z1s_ s.1 j)
     ·rw [if_pos (e.2 q),if_pos (decide_eq_true q)]
     ·rw [if_neg (fun z=>q (e.1 z)),if_neg (by simpa using q)]
    ·intro m i hi
     have h1:1<(s.1[j]).length:=by
      apply Classical.byContradiction
      intro hn
      rw [hbl,if_neg hn] at hi; omega
     rw [if_pos h1] at hbl hfl
     have hil:i<(s.1[j]).length:=by omega
     have hil':(i:Int)<((s.1[j]).length:Int):=by omega
     have h1':(1:Int)<((s.1[j]).length:Int):=by omega
     have hw2:=zi_ (i:=i) (by omega)
     have hml:(arrN s.1 j).length+i<s.2.2.2.length:=by omega
     have hgm:s.2.2.2[(arrN s.1 j).length+i]?=some s.2.2.2[(arrN s.1 j).length+i]:=List.getElem?_eq_getElem hml
     have hcells:=hs.cells _ (List.mem_of_getElem? hgm)
     have hfi:i<(zr_ s.1 s.1[j]).length:=by omega
     have hga:=zu9_ hg hfi
     have hgd:(zr_ s.1 s.1[j])[i]?=some ((zr_ s.1 s.1[j]).getD i 0):=by rw [List.getD_eq_getElem?_getD,List.getElem?_eq_getElem hfi]; rfl
     have hF:((zr_ s.1 s.1[j]).map fun i:Nat=>(i:Int))[i]?=some (((zr_ s.1 s.1[j]).getD i 0:Nat):Int):=by rw [List.getElem?_map,hgd]; rfl
     have hflt:(zr_ s.1 s.1[j]).getD i 0<s.1.length:=zod_ h hm (List.mem_of_getElem? hgd)
     obtain ⟨s1,_⟩:=z7k_ hS hj
     obtain ⟨s2,_⟩:=z7k_ hS hflt
     simp only [z9l_,zic_,Int.natCast_nonneg,if_true,Int.toNat_natCast,hg,Option.bind_some,hil',h1',decide_true,zoe_ hk h (show j≤s.1.length by omega) (show i≤4 by omega),hgm,zu7_ hk h hg,List.length_map,hfi,and_self,hF,(zof_ hk hcells).1,s1,s2,hw2]
     have e:chk1 k s (arrN s.1 j).length (z1s_ s.1 j) i=okA k s (j,i,(zr_ s.1 s.1[j]).getD i 0) s.2.2.2[(arrN s.1 j).length+i]:=by unfold chk1; rw [hga,hgm]
     rw [e]
     unfold okA
     generalize s.2.2.2[(arrN s.1 j).length+i]=mm
     generalize hv:s.2.2.1.getD ((zr_ s.1 s.1[j]).getD i 0) 0=v
     generalize hu:s.2.2.1.getD j 0=u
     clear hv hu
     cases matB k mm
     ·simp
     ·by_cases q1:mm.1=s.2.1
      ·by_cases q2:mm.2.1=u
       ·by_cases q3:mm.2.2.1=v <;> simp [q1,q2,q3]
       ·simp [q1,q2]
      ·simp [q1]
    ·intro m
     have hstop:¬ (((z1s_ s.1 j).length:Int)<((s.1[j]).length:Int)∧(1:Int)<((s.1[j]).length:Int)):=by
      rw [hbl]; split <;> omega
     simp only [z9l_,Int.natCast_nonneg,if_true,Int.toNat_natCast,hg,Option.bind_some,hw]
     by_cases q1:((z1s_ s.1 j).length:Int)<((s.1[j]).length:Int)
     ·have q2:¬ (1:Int)<((s.1[j]).length:Int):=fun z=>hstop ⟨q1,z⟩
      rw [decide_eq_true q1,if_pos rfl,decide_eq_false q2,if_neg (by simp)]
     ·rw [decide_eq_false q1,if_neg (by simp)]
   ·intro n
    simp only [z65_,Int.lt_irrefl,decide_false,Bool.false_eq_true,if_false]
  ·rw [decide_eq_false (show ¬ (s.2.2.2.length:Int)=((arrN s.1 s.1.length).length:Int) by omega),if_pos (by simp),decide_eq_false (fun z=>hN z.1)]
open Classical in
theorem zuf_ {k:Nat} (hk:KK≤k) {s:She} (hs:smallSh s):ze1_ k s=some (sheB k s):=by
 have hK:=zj_
 unfold ze1_ sheB
 obtain ⟨p1,p2,p3⟩:=zju_ hk s.2.1
 rw [zu1_ hk hs.cx,p2,zu6_ hk hs.cx hs.st]
 cases hcx:cxB s.1 with
 | false=>simp
 | true =>
 cases z6a_ k s.2.1 with
 | false=>simp
 | true =>
 cases hst:stB s.1 s.2.2.1 with
 | false=>simp
 | true =>
  have h:=z69_.1 hcx
  have hS:=zjr_ hst
  have hcl:=h.len
  have hal:=z7l_ h s.1.length (Nat.le_refl _)
  simp only [Option.bind_some,Bool.not_true,Bool.false_eq_true,if_false,zub_ hk h,Bool.true_and,List.length_map]
  have:=z3q_ (L:=fun n i=>z8p_ k n ((arrN s.1 s.1.length).length:Int) i ((arrN s.1 s.1.length).map toI3) s (fun q_11 v_12=>some (decide ((List.length q_11:Int)=(List.length v_12.2.2.2:Int))))) (b:=(arrN s.1 s.1.length).length) (p:=chk1 k s 0 (arrN s.1 s.1.length)) (r:=some false) (e:=some (decide ((arrN s.1 s.1.length).length=s.2.2.2.length))) ?_ ?_ (n:=k) (by omega)
  ·rw [this]
   have e:=zog_ (k:=k) (s:=s) (o:=0) (l:=arrN s.1 s.1.length)
   by_cases q:chk k s 0 (arrN s.1 s.1.length)
   ·rw [if_pos (e.2 q)]
    congr 1
    exact decide_eq_decide.2 ⟨fun z=>⟨z.symm,q⟩,fun z=>z.1.symm⟩
   ·rw [if_neg (fun z=>q (e.1 z)),decide_eq_false (fun z=>q z.2)]
  ·intro n i hi
   have hlt:(i:Int)<((arrN s.1 s.1.length).length:Int):=by omega
   have hw:=zi_ (i:=i) (by omega)
   have hg:(arrN s.1 s.1.length)[i]?=some (arrN s.1 s.1.length)[i]:=List.getElem?_eq_getElem hi
   have hF:((arrN s.1 s.1.length).map toI3)[i]?=some (toI3 (arrN s.1 s.1.length)[i]):=by rw [List.getElem?_map,hg]; rfl
   obtain ⟨a1,a2⟩:=zud_ h (Nat.le_refl _) hg
   obtain ⟨s1,_⟩:=z7k_ hS a1
   obtain ⟨s2,_⟩:=z7k_ hS a2
   have hch:chk1 k s 0 (arrN s.1 s.1.length) i=(match s.2.2.2[i]? with | some m=>okA k s (arrN s.1 s.1.length)[i] m | none=>false):=by unfold chk1; rw [hg,Nat.zero_add]
   rw [hch]
   generalize (arrN s.1 s.1.length)[i]=a at hF s1 s2
   simp only [z8p_,List.length_map,hlt,hi,decide_true,if_true,Int.natCast_nonneg,Int.toNat_natCast,and_self,hF,Option.bind_some,hw,toI3]
   by_cases hml:i<s.2.2.2.length
   ·have hgm:s.2.2.2[i]?=some s.2.2.2[i]:=List.getElem?_eq_getElem hml
    have hcells:=hs.cells _ (List.mem_of_getElem? hgm)
    rw [decide_eq_false (by omega),if_neg (by simp),hgm,s1,s2]
    simp only [Option.bind_some,zhz_,(zof_ hk hcells).2.1]
    show _=if okA k s a s.2.2.2[i]=true then _ else _
    unfold okA
    generalize s.2.2.2[i]=mm
    generalize s.2.2.1.getD a.1 0=u
    generalize s.2.2.1.getD a.2.2 0=v
    cases matB k mm
    ·simp
    ·by_cases q1:mm.1=s.2.1
     ·by_cases q2:mm.2.1=u
      ·by_cases q3:mm.2.2.1=v <;> simp [q1,q2,q3]
      ·simp [q1,q2]
     ·simp [q1]
   ·rw [decide_eq_true (by omega),if_pos rfl,List.getElem?_eq_none (by omega)]
    rfl
  ·intro n
   simp only [z8p_,Int.lt_irrefl,decide_false,Bool.false_eq_true,if_false,List.length_map]
   exact congrArg some (decide_eq_decide.2 (by omega))
def colB (v:List Int) (n p:Int):Bool:=v.all (fun x=>decide (0≤x∧x≤p-1))&&decide ((v.length:Int)=n)
theorem zjv_ {k:Nat} (hk:KK≤k) {v:List Int} (hv:v.length≤1048576) (n:Int) {p:Int} (hp : -1000000≤p∧p≤1000000):z8q_ k v n p=some (colB v n p):=by
 unfold z8q_ z6x_ colB
 simp only [Option.bind_some,zo8_ hk hv hp]
 by_cases c:(v.length:Int)=n
 ·rw [decide_eq_true c,if_pos rfl,Bool.and_true]
 ·rw [decide_eq_false c,if_neg (by simp),Bool.and_false]
theorem zoi_ {k:Nat} (hk:KK≤k) {s:She} (h:sheB k s=true):CxP s.1∧(2≤s.2.1∧s.2.1≤251)∧StP s.1 s.2.2.1:=by
 unfold sheB at h
 simp only [Bool.and_eq_true] at h
 exact ⟨z69_.1 h.1,(zju_ hk s.2.1).2.2 h.2.1,zjr_ h.2.2.1⟩
theorem zoj_ {d:Nat} (h:d<10):z_u8 (UInt8.ofNat (48+d))=((48+d:Nat):Int):=by
 have:(UInt8.ofNat (48+d)).toNat=48+d:=by simp [UInt8.toNat_ofNat']; omega
 show ((UInt8.ofNat (48+d)).toNat:Int)=_
 rw [this]
theorem zjw_ {d:Nat} (h:d<10):w_u8 (z0_ (48+(d:Int)))=((48+d:Nat):Int):=by
 rw [w_id (by omega) (by omega)]
 unfold w_u8 IntKind.wrap
 simp [IntKind.bits,IntKind.signed]; omega
def revD (u:Nat):List Int:=if u=0 then [] else ((Lib.decDigits u).map z_u8).reverse
theorem zg1_ {u:Nat} (h:u≠0):revD u=((48+u % 10:Nat):Int)::revD (u / 10):=by
 unfold revD
 rw [if_neg h]
 by_cases h1:u<10
 ·rw [Lib.decDigits,dif_pos h1,if_pos (by omega)]
  have:=zoj_ h1
  rw [Nat.mod_eq_of_lt h1,List.map_cons,List.map_nil,this]
  rfl
 ·rw [Lib.decDigits,dif_neg h1,if_neg (by omega)]
  have:=zoj_ (d:=u % 10) (by omega)
  rw [List.map_append,List.map_cons,List.map_nil,this,List.reverse_append]
  rfl
theorem zjx_:∀ (j u:Nat),u<10 ^ j→(revD u).length≤j
 | 0,u,h=>by
  have:u=0:=by simpa using h
  subst this; simp [revD]
 | j+1,u,h=>by
  by_cases h0:u=0
  ·subst h0; simp [revD]
  ·rw [zg1_ h0,List.length_cons]
   have:=zjx_ j (u / 10) (by rw [Nat.pow_succ] at h; omega)
   omega
theorem zjy_ {k:Nat} {n0:Int} {E:Int→List Int→Option (List UInt8)}:∀ (j u n:Nat) (m:Int) (q:List Int),(m=(u:Int)∨m = -(u:Int))→u<10 ^ j→u≤9223372036854775808 → -9223372036854775808≤m→m≤9223372036854775807→q.length+j≤100→j<n→z5d_ k n n0 m q E=E n0 (q++revD u)
 | j,u,0,m,q,_,_,_,_,_,_,h=>by omega
 | 0,u,n+1,m,q,hm,hu,_,_,_,_,_=>by
  have h0:u=0:=by simpa using hu
  subst h0
  have hm0:m=0:=by omega
  subst hm0
  simp [z5d_,revD]
 | j+1,u,n+1,m,q,hm,hu,hub,hm1,hm2,hq,hn=>by
  have hL:=z2b_
  by_cases h0:u=0
  ·subst h0
   have hm0:m=0:=by omega
   subst hm0
   simp [z5d_,revD]
  ·have hm0:¬ m=0:=by omega
   have hlim:(q.length+1)*1≤LIM:=by omega
   have hd:u % 10<10:=by omega
   have hj:u / 10<10 ^ j:=by rw [Nat.pow_succ] at hu; omega
   rcases hm with hm | hm
   ·subst hm
    have t1:Int.tmod (u:Int) 10=((u % 10:Nat):Int):=by rw [Int.tmod_eq_emod_of_nonneg (by omega)]; omega
    have t2:Int.tdiv (u:Int) 10=((u / 10:Nat):Int):=by rw [Int.tdiv_eq_ediv_of_nonneg (by omega)]; omega
    have w2:z0_ ((u / 10:Nat):Int)=((u / 10:Nat):Int):=w_id (by omega) (by omega)
    have hlt:¬ (((u % 10:Nat):Int)<0):=by omega
    have ih:=zjy_ (k:=k) (n0:=n0) (E:=E) j (u / 10) n ((u / 10:Nat):Int) (q++[((48+u % 10:Nat):Int)]) (.inl rfl) hj (by omega) (by omega) (by omega) (by simp; omega) (by omega)
    unfold z5d_
    rw [decide_eq_false hm0,if_pos (by rfl),t1,t2,decide_eq_false hlt,if_neg (by simp),zjw_ hd,w2,List.length_singleton,if_pos hlim,ih,List.append_assoc,zg1_ h0]
    rfl
   ·subst hm
    have t1:Int.tmod (-(u:Int)) 10 = -((u % 10:Nat):Int):=by rw [Int.neg_tmod,Int.tmod_eq_emod_of_nonneg (by omega)]; omega
    have t2:Int.tdiv (-(u:Int)) 10 = -((u / 10:Nat):Int):=by rw [Int.neg_tdiv,Int.tdiv_eq_ediv_of_nonneg (by omega)]; omega
    have w2:z0_ (-((u / 10:Nat):Int)) = -((u / 10:Nat):Int):=w_id (by omega) (by omega)
    have ih:=zjy_ (k:=k) (n0:=n0) (E:=E) j (u / 10) n (-((u / 10:Nat):Int)) (q++[((48+u % 10:Nat):Int)]) (.inr rfl) hj (by omega) (by omega) (by omega) (by simp; omega) (by omega)
    unfold z5d_
    rw [decide_eq_false hm0,if_pos (by rfl),t1,t2,w2]
    by_cases hz:u % 10=0
    ·have hlt:¬ (-((u % 10:Nat):Int)<0):=by omega
     have hw:w_u8 (z0_ (48 + -((u % 10:Nat):Int)))=((48+u % 10:Nat):Int):=by
      rw [hz]
      exact zjw_ (d:=0) (by omega)
     rw [decide_eq_false hlt,if_neg (by simp),hw,List.length_singleton,if_pos hlim,ih,List.append_assoc,zg1_ h0]
     rfl
    ·have hlt : -((u % 10:Nat):Int)<0:=by omega
     have hw:w_u8 (z0_ (48+z0_ (0 - -((u % 10:Nat):Int))))=((48+u % 10:Nat):Int):=by
      rw [show (0:Int) - -((u % 10:Nat):Int)=((u % 10:Nat):Int) by omega,w_id (x:=((u % 10:Nat):Int)) (by omega) (by omega)]
      exact zjw_ hd
     rw [decide_eq_true hlt,if_pos rfl,hw,List.length_singleton,if_pos hlim,ih,List.append_assoc,zg1_ h0]
     rfl
theorem zjz_ {k:Nat} {q:List Int} (hq:q.length≤1000) {E:List Int→Option (List UInt8)}:∀ (j n:Nat) (acc:List Int),j≤q.length→acc.length+j≤1000→j<n→z78_ k n ((j:Int)-1) q acc E=E (acc++(q.take j).reverse)
 | j,0,_,_,_,h=>by omega
 | 0,n+1,acc,_,_,_=>by
  have:¬ (0≤((0:Nat):Int)-1):=by omega
  simp only [z78_,this,decide_false,Bool.false_eq_true,if_false,List.take_zero,List.reverse_nil,List.append_nil]
 | j+1,n+1,acc,hj,ha,hn=>by
  have hL:=z2b_
  have e0:((j+1:Nat):Int)-1=(j:Int):=by omega
  have hjl:j<q.length:=by omega
  have ew:z0_ ((j:Int)-1)=(j:Int)-1:=w_id (by omega) (by omega)
  have hlim:(acc.length+1)*1≤LIM:=by omega
  have ih:=zjz_ (k:=k) hq (E:=E) j n (acc++[q[j]]) (by omega) (by simp; omega) (by omega)
  rw [e0]
  simp only [z78_,Int.natCast_nonneg,decide_true,if_true,Int.toNat_natCast,hjl,and_self,List.getElem?_eq_getElem hjl,Option.bind_some,List.length_singleton,hlim,ew,ih]
  rw [List.take_succ_eq_append_getElem hjl,List.reverse_append]
  simp
theorem zok_ (l:List UInt8):to_S (l.map z_u8)=l:=by
 unfold to_S
 rw [List.map_map]
 have:((fun x:Int=>x.toNat.toUInt8) ∘ z_u8)=id:=by
  funext b
  simp [z_u8]
 simp [this]
theorem zug_ {k:Nat} (hk:KK≤k) {n:Int} (h1 : -9223372036854775808≤n) (h2:n≤9223372036854775807):z9n_ k n=some (Lib.itoa n):=by
 have hK:=zj_
 have hL:=z2b_
 unfold z9n_ Lib.itoa
 by_cases h0:n=0
 ·subst h0
  rw [decide_eq_true rfl,if_pos rfl,if_neg (by omega)]
  rw [show (0:Int).toNat=0 from rfl,Lib.decDigits,dif_pos (by omega)]
  rfl
 ·have hp:n.natAbs<10 ^ 19:=by
   have:n.natAbs≤9223372036854775808:=by omega
   exact Nat.lt_of_le_of_lt this (by decide)
  have hl:=zjx_ 19 n.natAbs hp
  have hu:n.natAbs≠0:=by omega
  have hr:revD n.natAbs=((Lib.decDigits n.natAbs).map z_u8).reverse:=by unfold revD; rw [if_neg hu]
  rw [decide_eq_false h0,if_neg (by simp),zjy_ 19 n.natAbs k n [] (by omega) hp (by omega) h1 h2 (by simp) (by omega),List.nil_append]
  by_cases hn:n<0
  ·have hl1:((revD n.natAbs).length+1)*1≤LIM:=by omega
   have hb:=zjz_ (k:=k) (q:=revD n.natAbs++[45]) (by simp; omega) (E:=fun q=>some (to_S q)) (revD n.natAbs++[45]).length k [] (Nat.le_refl _) (by simp; omega) (by simp; omega)
   have hw:z0_ (((revD n.natAbs++[45]).length:Int)-1)=((revD n.natAbs++[45]).length:Int)-1:=w_id (by omega) (by simp; omega)
   rw [decide_eq_true hn,if_pos rfl,if_pos hn,List.length_singleton,if_pos hl1,hw,hb,List.take_length,List.nil_append,hr]
   congr 1
   have e:(((Lib.decDigits n.natAbs).map z_u8).reverse++[(45:Int)]).reverse=((45:UInt8)::Lib.decDigits n.natAbs).map z_u8:=by
    rw [List.reverse_append,List.reverse_reverse]; rfl
   rw [e,zok_]
  ·have hb:=zjz_ (k:=k) (q:=revD n.natAbs) (by omega) (E:=fun q=>some (to_S q)) (revD n.natAbs).length k [] (Nat.le_refl _) (by simp; omega) (by omega)
   have hw:z0_ (((revD n.natAbs).length:Int)-1)=((revD n.natAbs).length:Int)-1:=w_id (by omega) (by omega)
   have hna:n.natAbs=n.toNat:=by omega
   rw [decide_eq_false hn,if_neg (by simp),if_neg hn,hw,hb,List.take_length,List.nil_append,hr,List.reverse_reverse,zok_,hna]
theorem zuh_ {n:Int} (h1 : -9223372036854775808≤n) (h2:n≤9223372036854775807):zea_ n=some (Lib.itoa n):=by
 unfold zea_ zn8_
 rw [if_pos ⟨rfl,h1,h2⟩]; rfl
theorem zui_ {pre:List (List UInt8)} (h:pre≠[]) (x sep:List UInt8):Lib.join (pre++[x]) sep=Lib.join pre sep++sep++x:=by
 cases pre with
 | nil=>exact absurd rfl h
 | cons y r =>
  rw [List.cons_append,Lib.join_cons,Lib.join_cons]
  unfold Lib.joinTail
  simp
theorem zuj_ {u j:Nat} (h:u<10 ^ j) (hj:1≤j):(Lib.decDigits u).length≤j:=by
 by_cases h0:u=0
 ·subst h0; rw [Lib.decDigits,dif_pos (by omega)]; exact hj
 ·have:=zjx_ j u h
  unfold revD at this
  rw [if_neg h0] at this
  simpa using this
theorem zol_ {c:UInt8} {B:Nat}:∀ (r:List (List UInt8)),(∀ w∈r,w.length≤B)→(Lib.joinTail [c] r).length≤r.length*(B+1)
 | [],_=>by simp [Lib.joinTail]
 | y::r,h=>by
  have e:Lib.joinTail [c] (y::r)=[c]++y++Lib.joinTail [c] r:=by simp [Lib.joinTail]
  have h1:=zol_ (c:=c) r fun w hw=>h w (by simp [hw])
  have h2:=h y (by simp)
  rw [e,List.length_append,List.length_append,List.length_singleton,List.length_cons,Nat.succ_mul]
  omega
theorem zk0_ {c:UInt8} {B:Nat} (ws:List (List UInt8)) (h:∀ w∈ws,w.length≤B):(Lib.join ws [c]).length≤ws.length*(B+1):=by
 cases ws with
 | nil=>rw [Lib.join_nil]; simp
 | cons y r =>
  have h1:=zol_ (c:=c) (B:=B) r fun w hw=>h w (by simp [hw])
  have h2:=h y (by simp)
  rw [Lib.join_cons,List.length_append,List.length_cons,Nat.succ_mul]
  omega
theorem zuk_ {sep:List UInt8} {ws:List (List UInt8)} (h:∀ w∈ws,w≠[]):Lib.join ws sep=[]↔ws=[]:=by
 cases ws with
 | nil=>rw [Lib.join_nil]; simp
 | cons y r =>
  rw [Lib.join_cons]
  exact ⟨fun z=>absurd (List.append_eq_nil_iff.1 z).1 (h y (by simp)),fun z=>by cases z⟩
theorem zul_ (x sep:List UInt8):Lib.join [x] sep=x:=by rw [Lib.join_cons]; simp [Lib.joinTail]
theorem zum_ (u:Nat):Lib.decDigits u≠[]:=by
 rw [Lib.decDigits]
 split <;> simp
theorem zom_ {n:Int} (h:0≤n∧n<10000000):(Lib.itoa n).length≤7∧Lib.itoa n≠[]:=by
 unfold Lib.itoa
 rw [if_neg (by omega)]
 exact ⟨zuj_ (by omega) (by omega),zum_ _⟩
def z4p_ (l:List Int):List UInt8:=if l=[] then [45] else Lib.join (l.map Lib.itoa) [44]
def fitL (l:List Int):Prop:=l.length≤64∧∀ x∈l,0≤x∧x<10000000
theorem zg2_ {l:List Int} (h:fitL l):∀ w∈l.map Lib.itoa,w.length≤7∧w≠[]:=fun w hw=>by
 obtain ⟨x,hx,rfl⟩:=List.mem_map.1 hw
 exact zom_ (h.2 x hx)
theorem zun_ {l:List Int} (h:fitL l):(z4p_ l).length≤512∧z4p_ l≠[]:=by
 unfold z4p_
 by_cases e:l=[]
 ·rw [if_pos e]; simp
 ·rw [if_neg e]
  have h1:=zk0_ (c:=44) (l.map Lib.itoa) fun w hw=>(zg2_ h w hw).1
  rw [List.length_map] at h1
  have:=h.1
  refine ⟨by omega,fun z=>e ?_⟩
  have:=(zuk_ fun w hw=>(zg2_ h w hw).2).1 z
  exact List.map_eq_nil_iff.1 this
theorem zuo_ {k:Nat} (hk:KK≤k) {l:List Int} (h:fitL l):z7a_ k l=some (z4p_ l):=by
 have hK:=zj_
 obtain ⟨hl,hx⟩:=h
 unfold z7a_ z4p_
 by_cases e:l=[]
 ·subst e; simp
 rw [if_neg e]
 have hpos:0<l.length:=List.length_pos_iff.2 e
 rw [decide_eq_false (by omega),if_neg (by simp)]
 refine z2c_ (A:=List UInt8) (L:=fun n i out=>z79_ k n l out i (fun out_5=>some out_5)) (I:=fun pre out=>out=Lib.join (pre.map Lib.itoa) [44]) (G:=fun _ _=>some (Lib.join (l.map Lib.itoa) [44])) l ?_ ?_ k (by omega) [] (by rw [List.map_nil,Lib.join_nil])
 ·intro n pre x post out hxp ho ih hg hlt
  have hw:=zi_ (i:=pre.length) (by omega)
  have hxx:=hx x (List.mem_of_getElem? hg)
  have hi:=(zom_ hxx).1
  have hpre:fitL pre:=⟨by omega,fun y hy=>hx y (by rw [hxp]; simp [hy])⟩
  have hol:out.length≤512:=by
   rw [ho]
   have h1:=zk0_ (c:=44) (pre.map Lib.itoa) fun w hw=>(zg2_ hpre w hw).1
   rw [List.length_map] at h1
   have:=hpre.1
   omega
  have b1:out.length+1≤9223372036854775807:=by omega
  have b2:(out++[(44:UInt8)]).length+(Lib.itoa x).length≤9223372036854775807:=by rw [List.length_append,List.length_singleton]; omega
  have b3:out.length+(Lib.itoa x).length≤9223372036854775807:=by omega
  simp only [z79_,hlt,decide_true,if_true,List.length_singleton,b1,b2,b3,Int.natCast_nonneg,Int.toNat_natCast,hg,Option.bind_some,zug_ hk (show -9223372036854775808≤x by omega) (show x≤9223372036854775807 by omega),hw]
  by_cases c:pre=[]
  ·subst c
   rw [decide_eq_false (by simp),if_neg (by simp)]
   refine ih _ ?_
   rw [ho,List.map_nil,Lib.join_nil,List.nil_append,List.nil_append,List.map_cons,List.map_nil,zul_]
  ·have:0<pre.length:=List.length_pos_iff.2 c
   rw [decide_eq_true (by omega),if_pos rfl]
   refine ih _ ?_
   rw [List.map_append,List.map_cons,List.map_nil,zui_ (by simpa using c),ho]
 ·intro n out ho
  subst ho
  simp only [z79_,Int.lt_irrefl,decide_false,Bool.false_eq_true,if_false]
theorem zup_ {k:Nat} (hk:KK≤k) {l:List Int} (h:fitL l):zeb_ k l=some (z4p_ l):=by
 have hK:=zj_
 have hL:=z2b_
 have hwf:=zg2_ h
 obtain ⟨hl,hx⟩:=h
 unfold zeb_ z4p_
 rw [decide_eq_false (by omega),if_neg (by simp)]
 have hc:ze9_ k l ()=some false:=by
  unfold ze9_ zi4_
  rw [z8f_ (L:=fun n i=>z8s_ k n l () (l.length:Int) i (some (-1))) (p:=fun y=>!decide (-1000000000000≤y∧y≤1000000000000)) l ?_ ?_ (n:=k) (by omega)]
  ·rw [Option.bind_some,zbm_]
   congr 1
   rw [List.any_eq_false]
   intro y hy
   have:=hx y hy
   rw [decide_eq_true (by omega)]; simp
  ·intro n i y hi hlt
   have hw:=zi_ (i:=i) (by omega)
   simp only [z8s_,zi3_,zi2_,z45_,hlt,decide_true,if_true,Int.natCast_nonneg,Int.toNat_natCast,hi,Option.bind_some,hw]
  ·intro n
   simp [z8s_]
 rw [hc]
 simp only [Option.bind_some,Bool.false_eq_true,if_false]
 by_cases e:l=[]
 ·subst e; simp
 rw [if_neg e]
 have hpos:0<l.length:=List.length_pos_iff.2 e
 rw [decide_eq_false (by omega),if_neg (by simp)]
 refine z2c_ (A:=List (List UInt8)) (L:=fun n i q=>z8t_ k n l (l.length:Int) i q (fun q_5=>(zi5_ [44] q_5).bind fun y_6=>some y_6.1.1)) (I:=fun pre q=>q=pre.map Lib.itoa) (G:=fun _ _=>some (Lib.join (l.map Lib.itoa) [44])) l ?_ ?_ k (by omega) [] rfl
 ·intro n pre x post q hxp hq ih hg hlt
  have hw:=zi_ (i:=pre.length) (by omega)
  have hxx:=hx x (List.mem_of_getElem? hg)
  have b:(q.length+1)*16≤LIM:=by rw [hq,List.length_map]; omega
  simp only [z8t_,hlt,decide_true,if_true,Int.natCast_nonneg,Int.toNat_natCast,hg,Option.bind_some,zuh_ (show -9223372036854775808≤x by omega) (show x≤9223372036854775807 by omega),List.length_singleton,b,hw]
  exact ih _ (by rw [hq,List.map_append]; rfl)
 ·intro n q hq
  subst hq
  have h1:=zk0_ (c:=44) (l.map Lib.itoa) fun w hw=>(hwf w hw).1
  rw [List.length_map] at h1
  simp only [z8t_,Int.lt_irrefl,decide_false,Bool.false_eq_true,if_false]
  unfold zi5_
  rw [if_pos ⟨by rw [List.length_map]; omega,by omega⟩]
  rfl
abbrev Net:=Int×Int×Int×List Edg
def arcB (n:Net) (i:Nat):Bool:=match n.2.2.2[i]? with
 | some a=>decide (0≤a.1∧a.1≤z0_ (n.1-1))&&(decide (0≤a.2.1∧a.2.1≤z0_ (n.1-1))&&(!decide (a.1=a.2.1)&&(decide (0≤a.2.2∧a.2.2≤1000000)&&za1_ n.2.2.2 i a)))
 | none=>false
def netB (n:Net):Bool:=decide (2≤n.1∧n.1≤12)&&(decide (0≤n.2.1∧n.2.1≤z0_ (n.1-1))&&(decide (0≤n.2.2.1∧n.2.2.1≤z0_ (n.1-1))&&(!decide (n.2.1=n.2.2.1)&&((List.range n.2.2.2.length).all (arcB n)&&decide (n.2.2.2.length≤24)))))
theorem zuq_ {k:Nat} (hk:KK≤k) {n:Net} (hn:n.2.2.2.length≤1048576):zf7_ k n=some (netB n):=by
 have hK:=zj_
 have hl:z5b_ k k n 0 (fun n_11=>some (decide ((List.length n_11.2.2.2:Int)≤24)))=if (List.range n.2.2.2.length).all (arcB n)=true then some (decide ((n.2.2.2.length:Int)≤24)) else some false:=by
  refine z3q_ (L:=fun m i=>z5b_ k m n i (fun n_11=>some (decide ((List.length n_11.2.2.2:Int)≤24)))) (b:=n.2.2.2.length) (p:=arcB n) (r:=some false) ?_ ?_ (n:=k) (by omega)
  ·intro m i hi
   have hlt:(i:Int)<(n.2.2.2.length:Int):=by omega
   have hw:=zi_ (i:=i) (by omega)
   have hg:n.2.2.2[i]?=some n.2.2.2[i]:=List.getElem?_eq_getElem hi
   simp only [z5b_,hlt,decide_true,if_true,Int.natCast_nonneg,Int.toNat_natCast,hg,Option.bind_some,hw,z4m_,arcB,za1_]
   generalize n.2.2.2[i]=a
   by_cases c1:0≤a.1∧a.1≤z0_ (n.1-1)
   case neg=>simp [c1]
   by_cases c2:0≤a.2.1∧a.2.1≤z0_ (n.1-1)
   case neg=>simp [c1,c2]
   by_cases c3:a.1=a.2.1
   ·simp only [c3,decide_true] at *; simp [c2]
   by_cases c4:0≤a.2.2∧a.2.2≤1000000
   case neg=>simp [c1,c2,c3,c4]
   rw [decide_eq_true c1,decide_eq_true c2,decide_eq_false c3,decide_eq_true c4]
   simp only [Bool.not_true,Bool.not_false,Bool.false_eq_true,if_false,Bool.true_and]
   by_cases h0:0<i
   ·have h0':(0:Int)<(i:Int):=by omega
    have hw1:z0_ ((i:Int)-1)=((i-1:Nat):Int):=by rw [w_id (by omega) (by omega)]; omega
    have hg1:n.2.2.2[i-1]?=some n.2.2.2[i-1]:=List.getElem?_eq_getElem (by omega)
    simp only [h0',h0,decide_true,if_true,hw1,Int.natCast_nonneg,Int.toNat_natCast,hg1,Option.bind_some]
    generalize n.2.2.2[i-1]=t
    unfold z7i_
    by_cases d1:a.1<t.1
    ·have:¬ (t.1<a.1∨t.1=a.1∧t.2.1<a.2.1):=by omega
     rw [decide_eq_true d1,if_pos rfl,decide_eq_false this,if_neg (by simp)]
    ·rw [decide_eq_false d1,if_neg (by simp)]
     by_cases d2:t.1=a.1
     ·rw [decide_eq_true d2,if_pos rfl]
      by_cases d3:a.2.1≤t.2.1
      ·have:¬ (t.1<a.1∨t.1=a.1∧t.2.1<a.2.1):=by omega
       rw [decide_eq_true d3,if_pos rfl,decide_eq_false this,if_neg (by simp)]
      ·have:(t.1<a.1∨t.1=a.1∧t.2.1<a.2.1):=by omega
       rw [decide_eq_false d3,if_neg (by simp),decide_eq_true this,if_pos rfl]
     ·have:(t.1<a.1∨t.1=a.1∧t.2.1<a.2.1):=by omega
      rw [decide_eq_false d2,if_neg (by simp),decide_eq_true this,if_pos rfl]
   ·have h0':¬ (0:Int)<(i:Int):=by omega
    simp [h0,h0']
  ·intro m
   simp only [z5b_,Int.lt_irrefl,decide_false,Bool.false_eq_true,if_false]
 have e2:decide ((n.2.2.2.length:Int)≤24)=decide (n.2.2.2.length≤24):=decide_eq_decide.2 (by omega)
 unfold zf7_ netB
 rw [hl,e2]
 simp only [z4m_,Option.bind_some]
 by_cases c1:2≤n.1∧n.1≤12
 case neg=>simp [c1]
 by_cases c2:0≤n.2.1∧n.2.1≤z0_ (n.1-1)
 case neg=>simp [c1,c2]
 by_cases c3:0≤n.2.2.1∧n.2.2.1≤z0_ (n.1-1)
 case neg=>simp [c1,c2,c3]
 rw [decide_eq_true c1,decide_eq_true c2,decide_eq_true c3]
 cases decide (n.2.1=n.2.2.1) <;> cases (List.range n.2.2.2.length).all (arcB n) <;> simp
theorem zur_ {k:Nat} (hk:KK≤k) {n:Net} (hn:n.2.2.2.length≤1048576):ze5_ k n=some (netB n):=by
 have hK:=zj_
 have e2:decide ((n.2.2.2.length:Int)≤24)=decide (n.2.2.2.length≤24):=decide_eq_decide.2 (by omega)
 have hE:((z2d_ n.1 2 12).bind fun r_11=>(if r_11=true then (z3k_ n.2.1 n.1).bind fun r_12=>(if r_12=true then (z3k_ n.2.2.1 n.1).bind fun r_13=>(if r_13=true then (if (!(decide (n.2.1=n.2.2.1)))=true then some (decide ((List.length n.2.2.2:Int)≤24)) else some false) else some false) else some false) else some false))=some (decide (2≤n.1∧n.1≤12)&&(decide (0≤n.2.1∧n.2.1≤z0_ (n.1-1))&&(decide (0≤n.2.2.1∧n.2.2.1≤z0_ (n.1-1))&&(!decide (n.2.1=n.2.2.1)&&decide (n.2.2.2.length≤24))))):=by
  unfold z3k_
  simp only [z45_,Option.bind_some,e2]
  by_cases c1:2≤n.1∧n.1≤12
  case neg=>simp [c1]
  by_cases c2:0≤n.2.1∧n.2.1≤z0_ (n.1-1)
  case neg=>simp [c1,c2]
  by_cases c3:0≤n.2.2.1∧n.2.2.1≤z0_ (n.1-1)
  case neg=>simp [c1,c2,c3]
  rw [decide_eq_true c1,decide_eq_true c2,decide_eq_true c3]
  cases decide (n.2.1=n.2.2.1) <;> simp
 unfold ze5_
 have hl:∀ E:Net→Option Bool,z61_ k k n.2.2.2 (n.2.2.2.length:Int) 0 n E=if (List.range n.2.2.2.length).all (arcB n)=true then E n else some false:=by
  intro E
  refine z3q_ (L:=fun m i=>z61_ k m n.2.2.2 (n.2.2.2.length:Int) i n E) (b:=n.2.2.2.length) (p:=arcB n) (r:=some false) ?_ ?_ (n:=k) (by omega)
  ·intro m i hi
   have hlt:(i:Int)<(n.2.2.2.length:Int):=by omega
   have hw:=zi_ (i:=i) (by omega)
   have hg:n.2.2.2[i]?=some n.2.2.2[i]:=List.getElem?_eq_getElem hi
   simp only [z61_,z3k_,hlt,decide_true,if_true,Int.natCast_nonneg,Int.toNat_natCast,hg,Option.bind_some,hw,z45_,arcB,za1_]
   generalize n.2.2.2[i]=a
   by_cases c1:0≤a.1∧a.1≤z0_ (n.1-1)
   case neg=>simp [c1]
   by_cases c2:0≤a.2.1∧a.2.1≤z0_ (n.1-1)
   case neg=>simp [c1,c2]
   by_cases c3:a.1=a.2.1
   ·simp only [c3,decide_true] at *; simp [c2]
   by_cases c4:0≤a.2.2∧a.2.2≤1000000
   case neg=>simp [c1,c2,c3,c4]
   rw [decide_eq_true c1,decide_eq_true c2,decide_eq_false c3,decide_eq_true c4]
   simp only [Bool.not_true,Bool.not_false,Bool.false_eq_true,if_false,Bool.true_and]
   by_cases h0:0<i
   ·have h0':(0:Int)<(i:Int):=by omega
    have hw1:z0_ ((i:Int)-1)=((i-1:Nat):Int):=by rw [w_id (by omega) (by omega)]; omega
    have hg1:n.2.2.2[i-1]?=some n.2.2.2[i-1]:=List.getElem?_eq_getElem (by omega)
    simp only [h0',h0,decide_true,if_true,hw1,Int.natCast_nonneg,Int.toNat_natCast,hg1,Option.bind_some,zjj_,zjk_ hk,znp_]
    generalize n.2.2.2[i-1]=t
    cases z7i_ t a <;> simp
   ·have h0':¬ (0:Int)<(i:Int):=by omega
    simp [h0,h0']
  ·intro m
   simp only [z61_,Int.lt_irrefl,decide_false,Bool.false_eq_true,if_false]
 rw [hl,hE]
 unfold netB
 cases (List.range n.2.2.2.length).all (arcB n) <;> simp
def sumL {α:Type} (f:α→Nat) (l:List α):Nat:=(l.map f).sum
theorem z7m_ {α:Type} (f:α→Nat):sumL f []=0:=rfl
theorem z3l_ {α:Type} (f:α→Nat) (x:α) (l:List α):sumL f (x::l)=f x+sumL f l:=by simp [sumL]
theorem zg3_ {α:Type} (f:α→Nat) (l m:List α):sumL f (l++m)=sumL f l+sumL f m:=by simp [sumL]
theorem z5g_ {α:Type} (f:α→Nat) {x:α} {l:List α} (h:x∈l):f x≤sumL f l:=by
 induction l with
 | nil=>cases h
 | cons y l ih =>
  rw [z3l_]
  rcases List.mem_cons.1 h with rfl | h
  ·omega
  ·have:=ih h; omega
theorem zon_ {α:Type} (xs:List α) {s:α→Nat} {L:Nat→Int→Int→Option Int}
  (h1:∀ n (i:Nat) x r,xs[i]?=some x→(i:Int)<xs.length→x∈xs→0≤r→r≤1048576→L (n+1) (i:Int) r=if (s x:Int)≤r then L n ((i+1:Nat):Int) (r-(s x:Int)) else some (-1))
  (h2:∀ n r,L (n+1) (xs.length:Int) r=some r) {n:Nat} (hn:xs.length<n) {r:Int} (h0:0≤r) (hr:r≤1048576):L n 0 r=some (if (sumL s xs:Int)≤r then r-(sumL s xs:Int) else -1):=by
 refine z2c_ (L:=L) (I:=fun _ r=>0≤r∧r≤1048576) (G:=fun post r=>some (if (sumL s post:Int)≤r then r-(sumL s post:Int) else -1)) xs ?_ ?_ n hn r ⟨h0,hr⟩
 ·intro n pre x post r hx hI ih hg hlt
  rw [h1 n pre.length x r hg hlt (List.mem_of_getElem? hg) hI.1 hI.2]
  have hc:sumL s (x::post)=s x+sumL s post:=z3l_ _ _ _
  by_cases c:(s x:Int)≤r
  ·rw [if_pos c,ih (r-(s x:Int)) ⟨by omega,by omega⟩]
   by_cases c2:(sumL s post:Int)≤r-(s x:Int)
   ·rw [if_pos c2,if_pos (by omega)]; congr 1; omega
   ·rw [if_neg c2,if_neg (by omega)]
  ·rw [if_neg c,if_neg (by omega)]
 ·intro n r hI
  rw [h2,z7m_,if_pos (by simpa using hI.1)]; simp
theorem zus_ {k:Nat} (hk:KK≤k) {n:Int} (h:n≤9223372036854775807):∃ t,z58_ k n=some t:=by
 unfold z58_
 by_cases h0:n≤0
 ·exact ⟨[109,48],by simp [h0]⟩
 ·simp only [decide_eq_true_eq,h0,if_false]
  have key:∀ (m:Nat) (n:Int) (out:List UInt8),0≤n→n<10 ^ m→n≤9223372036854775807→out.length+m≤100→∀ q,m<q→∃ t,z70_ k q n out (fun out_1=>(if [109].length+out_1.length≤9223372036854775807 then some ([109]++out_1) else none))=some t:=by
   intro m
   induction m with
   | zero =>
    intro n out h1 h2 h3 h4 q hq
    obtain ⟨q,rfl⟩:∃ p,q=p+1:=⟨q-1,by omega⟩
    have:¬ 0<n:=by simp at h2; omega
    have h5:1+out.length≤9223372036854775807:=by omega
    exact ⟨[109]++out,by simp only [z70_,decide_eq_true_eq,this,if_false,List.length_singleton,h5,if_true]⟩
   | succ m ih =>
    intro n out h1 h2 h3 h4 q hq
    obtain ⟨q,rfl⟩:∃ p,q=p+1:=⟨q-1,by omega⟩
    by_cases hn:0<n
    ·have hd:Int.tdiv n 10=n / 10:=Int.tdiv_eq_ediv_of_nonneg h1
     have hw:z0_ (Int.tdiv n 10)=n / 10:=by rw [hd,w_id (by omega) (by omega)]
     have h5:1+out.length≤9223372036854775807:=by omega
     have h6:n / 10<10 ^ m:=by
      rw [Int.pow_succ] at h2
      omega
     obtain ⟨t,ht⟩:=ih (n / 10) ((to_S [(w_u8 ((z0_ (48+(Int.tmod n 10)))))])++out) (by omega) h6 (by omega) (by simp; omega) q (by omega)
     refine ⟨t,?_⟩
     simp only [z70_,decide_eq_true_eq,hn,if_true,hw]
     rw [if_pos (by simp; omega)]
     exact ht
    ·have h5:1+out.length≤9223372036854775807:=by omega
     exact ⟨[109]++out,by simp only [z70_,decide_eq_true_eq,hn,if_false,List.length_singleton,h5,if_true]⟩
  exact key 20 n [] (by omega) (by omega) h (by simp) k (by have:=zj_; omega)
noncomputable def tM (k:Nat) (m:Int):List UInt8:=(z58_ k m).getD []
theorem zg4_ {k:Nat} (hk:KK≤k) {m:Int} (h:m≤9223372036854775807):z58_ k m=some (tM k m):=by
 obtain ⟨t,ht⟩:=zus_ hk h
 unfold tM
 rw [ht]; rfl
def mkL {α:Type} (f:α→Int→α×Int):List α→Int→List α×Int
 | [],m=>([],m)
 | x::l,m=>((f x m).1::(mkL f l (f x m).2).1,(mkL f l (f x m).2).2)
theorem za3_ {α:Type} (f:α→Int→α×Int):∀ (l:List α) (m:Int),(mkL f l m).1.length=l.length
 | [],_=>rfl
 | x::l,m=>by simp [mkL,za3_ f l]
theorem zk1_ {α:Type} {f:α→Int→α×Int} {c:α→Nat} (hc:∀ x m,(f x m).2=m+(c x:Int)):∀ (l:List α) (m:Int),(mkL f l m).2=m+(sumL c l:Int)
 | [],m=>by simp [mkL,z7m_]
 | x::l,m=>by
  have h1:=z3l_ c x l
  show (mkL f l (f x m).2).2=_
  rw [zk1_ hc l,hc]; omega
theorem zk2_ {α:Type} {f:α→Int→α×Int}:∀ (l r:List α) (m:Int),(mkL f (l++r) m).1=(mkL f l m).1++(mkL f r (mkL f l m).2).1
 | [],r,m=>rfl
 | x::l,r,m=>by simp [mkL,zk2_ l r]
theorem z6b_ {α Q R:Type} {f:α→Int→α×Int} {c:α→Nat} (hc:∀ x m,(f x m).2=m+(c x:Int)) (xs:List α) {m0 B:Int} (hB:m0+(sumL c xs:Int)≤B) {S:List α→Q} {L:Nat→Int→Int→Q→R} {G:R}
  (h1:∀ n (i:Nat) m l y,l.length=xs.length→l[i]?=some y→y∈xs→m0≤m→m+(c y:Int)≤B→(i:Int)<l.length→i<l.length→L (n+1) m (i:Int) (S l)=L n (m+(c y:Int)) ((i+1:Nat):Int) (S (l.set i (f y m).1)))
  (h2:∀ n l,l=(mkL f xs m0).1→l.length=xs.length→L (n+1) (m0+(sumL c xs:Int)) (xs.length:Int) (S l)=G) {n:Nat} (hn:xs.length<n):L n m0 0 (S xs)=G:=by
 have main:∀ (post pre:List α) (n:Nat),xs=pre++post→post.length<n→L n (m0+(sumL c pre:Int)) (pre.length:Int) (S ((mkL f pre m0).1++post))=G:=by
  intro post
  induction post with
  | nil =>
   intro pre n hx hn
   obtain ⟨m,rfl⟩:∃ m,n=m+1:=⟨n-1,by simp at hn; omega⟩
   rw [List.append_nil] at hx ⊢
   subst hx
   exact h2 m _ rfl (za3_ f _ _)
  | cons x post ih =>
   intro pre n hx hn
   obtain ⟨m,rfl⟩:∃ m,n=m+1:=⟨n-1,by simp at hn; omega⟩
   have hl:(mkL f pre m0).1.length=pre.length:=za3_ f _ _
   have hs:sumL c xs=sumL c pre+(c x+sumL c post):=by rw [hx,zg3_,z3l_]
   rw [h1 m pre.length (m0+(sumL c pre:Int)) ((mkL f pre m0).1++x::post) x (by rw [hx]; simp [hl]) (by rw [List.getElem?_append_right (by omega),hl]; simp) (by rw [hx]; simp) (by omega) (by omega) (by simp [hl]; omega) (by simp [hl])]
   have:=ih (pre++[x]) m (by rw [hx]; simp) (by simp at hn; omega)
   have e1:((mkL f pre m0).1++x::post).set pre.length (f x (m0+(sumL c pre:Int))).1=(mkL f (pre++[x]) m0).1++post:=by
    rw [List.set_append_right _ _ (by omega),hl,Nat.sub_self,List.set_cons_zero,zk2_,zk1_ hc]
    simp [mkL]
   have e2:m0+(sumL c pre:Int)+(c x:Int)=m0+(sumL c (pre++[x]):Int):=by rw [zg3_,z3l_,z7m_]; omega
   rw [e1,e2]
   rw [List.length_append] at this
   simpa using this
 have:=main xs [] n rfl hn
 simpa [z7m_,mkL] using this
theorem zut_ {α R:Type} {f:α→Int→α×Int} {c:α→Nat} (hc:∀ x m,(f x m).2=m+(c x:Int)) (xs:List α) {m0 B:Int} (hB:m0+(sumL c xs:Int)≤B) {L:Nat→Int→Int→R} {G:R}
  (h1:∀ n (i:Nat) m y,(mkL f xs m0).1[i]?=some (f y m).1→y∈xs→m0≤m→m+(c y:Int)≤B→(i:Int)<(mkL f xs m0).1.length→i<(mkL f xs m0).1.length→L (n+1) m (i:Int)=L n (m+(c y:Int)) ((i+1:Nat):Int))
  (h2:∀ n,L (n+1) (m0+(sumL c xs:Int)) ((mkL f xs m0).1.length:Int)=G) {n:Nat} (hn:xs.length<n):L n m0 0=G:=by
 have hlen:(mkL f xs m0).1.length=xs.length:=za3_ f _ _
 have main:∀ (post pre:List α) (n:Nat),xs=pre++post→post.length<n→L n (m0+(sumL c pre:Int)) (pre.length:Int)=G:=by
  intro post
  induction post with
  | nil =>
   intro pre n hx hn
   obtain ⟨m,rfl⟩:∃ m,n=m+1:=⟨n-1,by simp at hn; omega⟩
   rw [List.append_nil] at hx
   have:=h2 m
   rw [hlen] at this
   rw [← hx]; exact this
  | cons x post ih =>
   intro pre n hx hn
   obtain ⟨m,rfl⟩:∃ m,n=m+1:=⟨n-1,by simp at hn; omega⟩
   have hl:(mkL f pre m0).1.length=pre.length:=za3_ f _ _
   have hs:sumL c xs=sumL c pre+(c x+sumL c post):=by rw [hx,zg3_,z3l_]
   have hlx:pre.length<xs.length:=by rw [hx]; simp
   have hg:(mkL f xs m0).1[pre.length]?=some (f x (m0+(sumL c pre:Int))).1:=by
    rw [hx,zk2_,List.getElem?_append_right (by omega),hl,Nat.sub_self,zk1_ hc]
    rfl
   rw [h1 m pre.length (m0+(sumL c pre:Int)) x hg (by rw [hx]; simp) (by omega) (by omega) (by omega) (by omega)]
   have:=ih (pre++[x]) m (by rw [hx]; simp) (by simp at hn; omega)
   have e2:m0+(sumL c pre:Int)+(c x:Int)=m0+(sumL c (pre++[x]):Int):=by rw [zg3_,z3l_,z7m_]; omega
   rw [e2]
   rw [List.length_append] at this
   simpa using this
 have:=main xs [] n rfl hn
 simpa [z7m_] using this
theorem zg5_ {α:Type}:∀ l:List α,sumL (fun _=>1) l=l.length
 | []=>rfl
 | x::l=>by rw [z3l_,zg5_ l,List.length_cons]; omega
abbrev Prb:=Int×List UInt8×List UInt8
noncomputable def mkPb (k:Nat) (_:Prb) (m:Int):Prb×Int:=((m,tM k (m+1),tM k (m+1+1)),m+((3:Nat):Int))
theorem zoo_ (k:Nat) (x:Prb) (m:Int):(mkPb k x m).2=m+(((fun _:Prb=>3) x:Nat):Int):=rfl
theorem zk3_ {α:Type}:∀ l:List α,sumL (fun _=>3) l=3*l.length
 | []=>rfl
 | x::l=>by rw [z3l_,zk3_ l,List.length_cons]; omega
theorem zuu_ {k:Nat} (hk:KK≤k) {L:List Prb} {m:Int} (h0:0≤m) (h1:m+((3*L.length:Nat):Int)≤100000000000000000) (hL:L.length≤1000000000000) :
  zbc_ k m L=some ((m+((3*L.length:Nat):Int),()),((mkL (mkPb k) L m).1,()),()):=by
 have hK:=zj_
 rw [← zk3_] at h1 ⊢
 unfold zbc_
 refine z6b_ (zoo_ k) L (m0:=m) (B:=100000000000000000) h1 (S:=fun l=>l) (L:=fun n m i q=>z98_ k n m i q (fun k_11 q_12=>some ((k_11,()),(q_12,()),()))) ?_ ?_ (n:=k) (by omega)
 ·intro n i m' l y hll hg hy m0 m1 hlt hlt'
  have hw:=zi_ (i:=i) (by omega)
  have w1:z0_ (m'+1)=m'+1:=w_id (by omega) (by omega)
  have w2:z0_ (m'+1+1)=m'+1+1:=w_id (by omega) (by omega)
  have w3:z0_ (m'+1+1+1)=m'+((3:Nat):Int):=by rw [w_id (by omega) (by omega)]; omega
  simp only [z98_,hlt,hlt',decide_true,if_true,Option.bind_some,Int.natCast_nonneg,Int.toNat_natCast,and_self,hg,List.length_set,List.getElem?_set_self hlt',w1,w2,w3,zg4_ hk (show m'+1≤9223372036854775807 by omega),zg4_ hk (show m'+1+1≤9223372036854775807 by omega),List.set_set,hw,mkPb]
 ·intro n l hl2 hll
  have:¬ (L.length:Int)<(l.length:Int):=by omega
  simp only [z98_,this,decide_false,Bool.false_eq_true,if_false]
  rw [hl2]
theorem zuv_ {k:Nat} (hk:KK≤k) {L:List Prb} {m:Int} (h0:0≤m) (h1:m+((3*L.length:Nat):Int)≤100000000000000000) (hL:L.length≤1000000000000) :
  z9a_ k (mkL (mkPb k) L m).1 m=some (m+((3*L.length:Nat):Int)):=by
 have hK:=zj_
 rw [← zk3_] at h1 ⊢
 unfold z9a_
 refine zut_ (zoo_ k) L (m0:=m) (B:=100000000000000000) h1 (L:=fun n m' i=>z99_ k n (mkL (mkPb k) L m).1 m' i fun k_6=>some k_6) ?_ ?_ (n:=k) (by omega)
 ·intro n i m' y hg hy m0 m1 hlt hlt'
  have hw:=zi_ (i:=i) (by rw [za3_] at hlt'; omega)
  have w1:z0_ (m'+1)=m'+1:=w_id (by omega) (by omega)
  have w2:z0_ (m'+1+1)=m'+1+1:=w_id (by omega) (by omega)
  have w3:z0_ (m'+1+1+1)=m'+((3:Nat):Int):=by rw [w_id (by omega) (by omega)]; omega
  simp only [z99_,hlt,decide_true,if_true,Int.natCast_nonneg,Int.toNat_natCast,hg,Option.bind_some,w1,w2,w3,zg4_ hk (show m'+1≤9223372036854775807 by omega),zg4_ hk (show m'+1+1≤9223372036854775807 by omega),mkPb,Bool.not_true,Bool.false_eq_true,if_false,hw]
 ·intro n
  simp only [z99_,Int.lt_irrefl,decide_false,Bool.false_eq_true,if_false]
theorem zuw_ {k:Nat} (hk:KK≤k) {L:List Prb} (hL:L.length≤1000000000):∃ (m:Int) (q:List Prb),zbc_ k 1 L=some ((m,()),(q,()),())∧z9a_ k q 1=some m∧¬ m<0 :=
 ⟨_,_,zuu_ hk (by omega) (by omega) (by omega),zuv_ hk (by omega) (by omega) (by omega),by omega⟩
theorem zg6_ {S R:Type} {L:Nat→Int→S→R} {b:Nat} {st:Nat→S} {e:R} (h1:∀ n (i:Nat),i<b→L (n+1) (i:Int) (st i)=L n ((i+1:Nat):Int) (st (i+1))) (h2:∀ n,L (n+1) (b:Int) (st b)=e):∀ {n:Nat},b<n→L n 0 (st 0)=e:=by
 have key:∀ (d i n:Nat),i+d=b→d<n→L n (i:Int) (st i)=e:=by
  intro d
  induction d with
  | zero =>
   intro i n hi hn
   obtain ⟨n,rfl⟩:∃ m,n=m+1:=⟨n-1,by omega⟩
   have:i=b:=by omega
   subst this
   exact h2 n
  | succ d ih =>
   intro i n hi hn
   obtain ⟨n,rfl⟩:∃ m,n=m+1:=⟨n-1,by omega⟩
   rw [h1 n i (by omega)]
   exact ih (i+1) n (by omega) (by omega)
 intro n hn
 exact key b 0 n (by omega) hn
instance dec_Problem_1:DecidableEq (List UInt8×List UInt8):=inferInstance
instance dec_Problem:DecidableEq (Int×List UInt8×List UInt8):=inferInstance
def z7n_ (a:Int×List UInt8×List UInt8):Nat:=(List.length (a.2.1))+(List.length (a.2.2))
instance dec_ProblemS:DecidableEq (List (Int×List UInt8×List UInt8)):=inferInstance
def z6c_ (a:List (Int×List UInt8×List UInt8)):Nat:=a.length+sumL z7n_ a
theorem zux_ {n p:Int} (hp:0<p) (hp2:p≤1000000):zbf_ n p=some (n % p):=by
 have h0:¬ p=0:=by omega
 have b1:Int.tmod n p<p:=Int.tmod_lt_of_pos n hp
 have b2 : -p<Int.tmod n p:=Int.lt_tmod_of_pos n hp
 have w:z0_ (Int.tmod n p+p)=Int.tmod n p+p:=w_id (by omega) (by omega)
 unfold zbf_
 rw [if_neg h0,if_neg h0,w,Int.tmod_eq_emod_of_nonneg (by omega)]
 have e:=Int.mul_tdiv_add_tmod n p
 have:Int.tmod n p+p=n+p*(1-Int.tdiv n p):=by rw [Int.mul_sub,Int.mul_one]; omega
 rw [this,Int.add_mul_emod_self_left]
theorem zuy_ {u v s m:Int} (hm:2≤m) (hu:0≤u) (hs:0≤s) (hv:0≤v∧v≤m-1):(Int.tmod (u+s) m=v)↔(v-u-s) % m=0:=by
 rw [Int.tmod_eq_emod_of_nonneg (by omega)]
 have e:v % m=v:=Int.emod_eq_of_lt (by omega) (by omega)
 have:=Int.emod_eq_emod_iff_emod_sub_eq_zero (m:=v) (n:=m) (k:=u+s)
 rw [show v-u-s=v-(u+s) by omega,← this,e]
 exact eq_comm
theorem za4_ {x:Pha} (h:z1x_ x=true):(1≤x.1∧x.1≤12)∧(2≤x.2.1∧x.2.1≤360)∧x.2.2.length≤24∧∀ (i:Nat) a,x.2.2[i]?=some a→0≤a.1∧a.1<a.2.1∧a.2.1<x.1∧0≤a.2.2∧a.2.2≤x.2.1-1:=by
 unfold z1x_ at h
 simp only [Bool.and_eq_true,decide_eq_true_eq,List.all_eq_true] at h
 obtain ⟨h1,h2,h3,h4⟩:=h
 refine ⟨h1,h2,h4,fun i a ha=>?_⟩
 have:=h3 i (List.mem_range.2 (List.getElem?_eq_some_iff.1 ha).1)
 have hw:z0_ (x.2.1-1)=x.2.1-1:=w_id (by omega) (by omega)
 unfold z4n_ at this
 rw [ha,hw] at this
 simp only [Bool.and_eq_true,Bool.not_eq_true',decide_eq_true_eq,decide_eq_false_iff_not] at this
 omega
def badT (x:Pha) (p:List Int) (i:Nat):Bool:=match x.2.2[i]? with
 | some a=>!decide (Int.tmod (p.getD a.1.toNat 0+a.2.2) x.2.1=p.getD a.2.1.toNat 0)
 | none=>false
def wrU (x:Pha) (p:List Int) (i:Nat):List Int:=((List.range i).filter (badT x p)).map fun (j:Nat)=>(j:Int)
theorem zop_ (x:Pha) (p:List Int) (i:Nat):wrU x p (i+1)=if badT x p i=true then wrU x p i++[(i:Int)] else wrU x p i:=by
 unfold wrU
 rw [List.range_succ,List.filter_append,List.map_append]
 cases h:badT x p i <;> simp [h]
theorem zbq_ (x:Pha) (p:List Int) (i:Nat):(wrU x p i).length≤i:=by
 unfold wrU
 rw [List.length_map]
 have:=List.length_filter_le (badT x p) (List.range i)
 rwa [List.length_range] at this
theorem zoq_ {x:Pha} {p:List Int} {i:Nat} {y:Int} (h:y∈wrU x p i):0≤y∧y.toNat<i:=by
 unfold wrU at h
 obtain ⟨j,hj,rfl⟩:=List.mem_map.1 h
 have:=List.mem_range.1 (List.mem_filter.1 hj).1
 exact ⟨by omega,by omega⟩
theorem zg7_ {v:List Int} {n p:Int} (h:colB v n p=true) {j:Int} (h0:0≤j) (h1:j<n):v[j.toNat]?=some (v.getD j.toNat 0)∧0≤v.getD j.toNat 0∧v.getD j.toNat 0≤p-1:=by
 unfold colB at h
 simp only [Bool.and_eq_true,decide_eq_true_eq,List.all_eq_true] at h
 have hl:j.toNat<v.length:=by omega
 have hg:v[j.toNat]?=some v[j.toNat]:=List.getElem?_eq_getElem hl
 have e:v.getD j.toNat 0=v[j.toNat]:=by rw [List.getD_eq_getElem?_getD,hg]; rfl
 rw [e]
 exact ⟨hg,h.1 _ (List.getElem_mem hl)⟩
theorem zuz_ {k:Nat} (hk:KK≤k) {x:Pha} {p:List Int} (h:z1x_ x=true) (hp:colB p x.1 x.2.1=true):zff_ k x p=some (wrU x p x.2.2.length):=by
 have hK:=zj_
 obtain ⟨p1,p2,p3,p4⟩:=za4_ h
 unfold zff_
 refine zg6_ (S:=List Int) (L:=fun m i q=>z7b_ k m x p i q (fun q_6=>some q_6)) (b:=x.2.2.length) (st:=wrU x p) ?_ ?_ (n:=k) (by omega)
 ·intro m i hi
  have hlt:(i:Int)<(x.2.2.length:Int):=by omega
  have hw:=zi_ (i:=i) (by omega)
  have hg:x.2.2[i]?=some x.2.2[i]:=List.getElem?_eq_getElem hi
  obtain ⟨q1,q2,q3,q4,q5⟩:=p4 i _ hg
  have hlen:=zbq_ x p i
  have hL:((wrU x p i).length+[(i:Int)].length)*8≤LIM:=by unfold LIM; simp only [List.length_singleton]; omega
  have hb:badT x p i=!decide (Int.tmod (p.getD x.2.2[i].1.toNat 0+x.2.2[i].2.2) x.2.1=p.getD x.2.2[i].2.1.toNat 0):=by unfold badT; rw [hg]
  obtain ⟨g1,r1,r2⟩:=zg7_ hp (j:=x.2.2[i].1) q1 (by omega)
  obtain ⟨g2,r3,r4⟩:=zg7_ hp (j:=x.2.2[i].2.1) (by omega) (by omega)
  simp only [zop_,hb]
  generalize x.2.2[i]=a at *
  generalize p.getD a.1.toNat 0=u at *
  generalize p.getD a.2.1.toNat 0=v at *
  have w1:z0_ (v-u)=v-u:=w_id (by omega) (by omega)
  have w2:z0_ (v-u-a.2.2)=v-u-a.2.2:=w_id (by omega) (by omega)
  have hm:=zux_ (n:=v-u-a.2.2) (p:=x.2.1) (by omega) (by omega)
  have hs:=zuy_ (u:=u) (v:=v) (s:=a.2.2) (m:=x.2.1) (by omega) (by omega) (by omega) ⟨r3,r4⟩
  have h21:0≤a.2.1:=by omega
  simp only [z7b_,hlt,decide_true,if_true,Int.natCast_nonneg,Int.toNat_natCast,hg,Option.bind_some,hw,q1,h21,g1,g2,w1,w2,hm,hL]
  by_cases c:Int.tmod (u+a.2.2) x.2.1=v
  ·rw [decide_eq_true c,decide_eq_true (hs.1 c)]; simp
  ·rw [decide_eq_false c,decide_eq_false (fun e=>c (hs.2 e))]; simp
 ·intro m
  simp only [z7b_,Int.lt_irrefl,decide_false,Bool.false_eq_true,if_false]
theorem zv0_ {k:Nat} (hk:KK≤k) {x:Pha} {p:List Int} (h:z1x_ x=true) (hp:colB p x.1 x.2.1=true):ze8_ k x p=some (wrU x p x.2.2.length):=by
 have hK:=zj_
 obtain ⟨p1,p2,p3,p4⟩:=za4_ h
 unfold ze8_
 refine zg6_ (S:=List Int) (L:=fun m i q=>z6y_ k m p x.2.2 (x.2.2.length:Int) i q x (fun q_5=>some q_5)) (b:=x.2.2.length) (st:=wrU x p) ?_ ?_ (n:=k) (by omega)
 ·intro m i hi
  have hlt:(i:Int)<(x.2.2.length:Int):=by omega
  have hw:=zi_ (i:=i) (by omega)
  have hg:x.2.2[i]?=some x.2.2[i]:=List.getElem?_eq_getElem hi
  obtain ⟨q1,q2,q3,q4,q5⟩:=p4 i _ hg
  have hlen:=zbq_ x p i
  have hL:((wrU x p i).length+[(i:Int)].length)*8≤LIM:=by unfold LIM; simp only [List.length_singleton]; omega
  have hb:badT x p i=!decide (Int.tmod (p.getD x.2.2[i].1.toNat 0+x.2.2[i].2.2) x.2.1=p.getD x.2.2[i].2.1.toNat 0):=by unfold badT; rw [hg]
  obtain ⟨g1,r1,r2⟩:=zg7_ hp (j:=x.2.2[i].1) q1 (by omega)
  obtain ⟨g2,r3,r4⟩:=zg7_ hp (j:=x.2.2[i].2.1) (by omega) (by omega)
  simp only [zop_,hb]
  generalize x.2.2[i]=a at *
  generalize p.getD a.1.toNat 0=u at *
  generalize p.getD a.2.1.toNat 0=v at *
  have w1:z0_ (u+a.2.2)=u+a.2.2:=w_id (by omega) (by omega)
  have h21:0≤a.2.1:=by omega
  have hm0:¬ x.2.1=0:=by omega
  simp only [z6y_,hlt,decide_true,if_true,Int.natCast_nonneg,Int.toNat_natCast,hg,Option.bind_some,hw,q1,h21,g1,g2,w1,hm0,if_false,hL]
  split <;> rfl
 ·intro m
  simp only [z6y_,Int.lt_irrefl,decide_false,Bool.false_eq_true,if_false]
noncomputable def pbT (x:Pha) (y:Int):Prb:=match x.2.2[y.toNat]? with
 | some a=>(5,(z4p_ [a.1,a.2.1],[115,104,105,102,116]))
 | none=>(0,([],[]))
noncomputable def z31_ (x:Pha) (p:List Int):List Prb:=(wrU x p x.2.2.length).map (pbT x)
theorem fit2 {x:Pha} (h:z1x_ x=true) {i:Nat} {a:Edg} (ha:x.2.2[i]?=some a):fitL [a.1,a.2.1]:=by
 obtain ⟨p1,p2,p3,p4⟩:=za4_ h
 have:=p4 i a ha
 refine ⟨by simp,fun y hy=>?_⟩
 simp only [List.mem_cons,List.not_mem_nil,or_false] at hy
 rcases hy with rfl | rfl <;> omega
theorem zor_ {α β:Type} (f:α→β) {l:List α} {i:Nat} {y:α} (h:l[i]?=some y):(l.take (i+1)).map f=(l.take i).map f++[f y]:=by
 rw [List.take_add_one,h,List.map_append]; rfl
theorem zv1_ {k:Nat} (hk:KK≤k) {w:She×Int×List Int×List Int×Net×List Int×List Int×Pha×List Int} (h:z1x_ w.2.2.2.2.2.2.2.1=true) (hp:colB w.2.2.2.2.2.2.2.2 w.2.2.2.2.2.2.2.1.1 w.2.2.2.2.2.2.2.1.2.1=true):zfg_ k w=some (z31_ w.2.2.2.2.2.2.2.1 w.2.2.2.2.2.2.2.2):=by
 have hK:=zj_
 unfold zfg_ z31_
 rw [zuz_ hk h hp]
 obtain ⟨p1,p2,p3,p4⟩:=za4_ h
 have hm:=fun y=>zoq_ (x:=w.2.2.2.2.2.2.2.1) (p:=w.2.2.2.2.2.2.2.2) (i:=w.2.2.2.2.2.2.2.1.2.2.length) (y:=y)
 have hl:=zbq_ w.2.2.2.2.2.2.2.1 w.2.2.2.2.2.2.2.2 w.2.2.2.2.2.2.2.1.2.2.length
 simp only [Option.bind_some]
 generalize wrU w.2.2.2.2.2.2.2.1 w.2.2.2.2.2.2.2.2 w.2.2.2.2.2.2.2.1.2.2.length=W at *
 have:=zg6_ (S:=List Prb) (R:=Option (List Prb)) (L:=fun m i q=>z9q_ k m w i q W (fun q_7=>some q_7)) (b:=W.length) (st:=fun i=>(W.take i).map (pbT w.2.2.2.2.2.2.2.1)) (e:=some (W.map (pbT w.2.2.2.2.2.2.2.1))) ?_ ?_ (n:=k) (by omega)
 ·simpa using this
 ·intro m i hi
  have hlt:(i:Int)<(W.length:Int):=by omega
  have hw:=zi_ (i:=i) (by omega)
  have hg:W[i]?=some W[i]:=List.getElem?_eq_getElem hi
  obtain ⟨y0,y1⟩:=hm W[i] (List.getElem_mem hi)
  have hin:(0:Int)≤(i:Int)∧i<W.length:=⟨by omega,hi⟩
  have hga:w.2.2.2.2.2.2.2.1.2.2[(W[i]).toNat]?=some w.2.2.2.2.2.2.2.1.2.2[(W[i]).toNat]:=List.getElem?_eq_getElem y1
  have ht:=zuo_ hk (fit2 h hga)
  have hpb:pbT w.2.2.2.2.2.2.2.1 W[i]=(5,(z4p_ [w.2.2.2.2.2.2.2.1.2.2[(W[i]).toNat].1,w.2.2.2.2.2.2.2.1.2.2[(W[i]).toNat].2.1],[115,104,105,102,116])):=by unfold pbT; rw [hga]
  have hL:(((W.take i).map (pbT w.2.2.2.2.2.2.2.1)).length+1)*40≤LIM:=by unfold LIM; rw [List.length_map,List.length_take]; omega
  simp only [z9q_,hlt,decide_true,if_true,Int.natCast_nonneg,Int.toNat_natCast,hi,and_self,hg,Option.bind_some,y0,hga,ht,List.length_singleton,hL,hw,zor_ (pbT w.2.2.2.2.2.2.2.1) hg,hpb]
 ·intro m
  simp only [z9q_,Int.lt_irrefl,decide_false,Bool.false_eq_true,if_false,List.take_length]
theorem zv2_ {k:Nat} (hk:KK≤k) {w:She×Int×List Int×List Int×Net×List Int×List Int×Pha×List Int} (h:z1x_ w.2.2.2.2.2.2.2.1=true) (hp:colB w.2.2.2.2.2.2.2.2 w.2.2.2.2.2.2.2.1.1 w.2.2.2.2.2.2.2.1.2.1=true):zec_ k w=some (z31_ w.2.2.2.2.2.2.2.1 w.2.2.2.2.2.2.2.2):=by
 have hK:=zj_
 unfold zec_ z31_
 rw [zv0_ hk h hp]
 obtain ⟨p1,p2,p3,p4⟩:=za4_ h
 have hm:=fun y=>zoq_ (x:=w.2.2.2.2.2.2.2.1) (p:=w.2.2.2.2.2.2.2.2) (i:=w.2.2.2.2.2.2.2.1.2.2.length) (y:=y)
 have hl:=zbq_ w.2.2.2.2.2.2.2.1 w.2.2.2.2.2.2.2.2 w.2.2.2.2.2.2.2.1.2.2.length
 simp only [Option.bind_some]
 generalize wrU w.2.2.2.2.2.2.2.1 w.2.2.2.2.2.2.2.2 w.2.2.2.2.2.2.2.1.2.2.length=W at *
 have:=zg6_ (S:=List Prb) (R:=Option (List Prb)) (L:=fun m i q=>z8u_ k m (W.length:Int) i q W w (fun q_7=>some q_7)) (b:=W.length) (st:=fun i=>(W.take i).map (pbT w.2.2.2.2.2.2.2.1)) (e:=some (W.map (pbT w.2.2.2.2.2.2.2.1))) ?_ ?_ (n:=k) (by omega)
 ·simpa using this
 ·intro m i hi
  have hlt:(i:Int)<(W.length:Int):=by omega
  have hw:=zi_ (i:=i) (by omega)
  have hg:W[i]?=some W[i]:=List.getElem?_eq_getElem hi
  obtain ⟨y0,y1⟩:=hm W[i] (List.getElem_mem hi)
  have hga:w.2.2.2.2.2.2.2.1.2.2[(W[i]).toNat]?=some w.2.2.2.2.2.2.2.1.2.2[(W[i]).toNat]:=List.getElem?_eq_getElem y1
  have ht:=zup_ hk (fit2 h hga)
  have hpb:pbT w.2.2.2.2.2.2.2.1 W[i]=(5,(z4p_ [w.2.2.2.2.2.2.2.1.2.2[(W[i]).toNat].1,w.2.2.2.2.2.2.2.1.2.2[(W[i]).toNat].2.1],[115,104,105,102,116])):=by unfold pbT; rw [hga]
  have hL:(((W.take i).map (pbT w.2.2.2.2.2.2.2.1)).length+1)*40≤LIM:=by unfold LIM; rw [List.length_map,List.length_take]; omega
  simp only [z8u_,hlt,decide_true,if_true,Int.natCast_nonneg,Int.toNat_natCast,hi,and_self,hg,Option.bind_some,y0,hga,ht,List.length_singleton,hL,hw,zor_ (pbT w.2.2.2.2.2.2.2.1) hg,hpb]
 ·intro m
  simp only [z8u_,Int.lt_irrefl,decide_false,Bool.false_eq_true,if_false,List.take_length]
theorem zk4_ {x:Pha} (h:z1x_ x=true) (p:List Int):(z31_ x p).length≤24:=by
 obtain ⟨_,_,p3,_⟩:=za4_ h
 unfold z31_
 rw [List.length_map]
 exact Nat.le_trans (zbq_ _ _ _) p3
theorem zos_ {α:Type} (f:α→Nat) (B:Nat):∀ l:List α,(∀ x∈l,f x≤B)→sumL f l≤l.length*B
 | [],_=>by simp [sumL]
 | x::l,h=>by
  have h1:=zos_ f B l fun y hy=>h y (List.mem_cons_of_mem _ hy)
  have h2:=h x (List.mem_cons_self)
  rw [z3l_,List.length_cons,Nat.add_mul]
  omega
theorem zv3_ {x:Pha} (h:z1x_ x=true) (p:List Int):z6c_ (z31_ x p)≤100000:=by
 have hl:=zk4_ h p
 have hs:sumL z7n_ (z31_ x p)≤(z31_ x p).length*600:=by
  refine zos_ _ _ _ fun y hy=>?_
  unfold z31_ at hy
  obtain ⟨j,_,rfl⟩:=List.mem_map.1 hy
  unfold pbT
  cases hg:x.2.2[j.toNat]? with
  | none=>simp [z7n_]
  | some a =>
   have:=(zun_ (fit2 h hg)).1
   simp only [z7n_,List.length_cons,List.length_nil]
   omega
 unfold z6c_
 omega
abbrev Wrk:=She×Int×List Int×List Int×Net×List Int×List Int×Pha×List Int
structure smallW (w:Wrk):Prop where
 sh:smallSh w.1
 cl:w.2.2.1.length≤1048576
 rd:w.2.2.2.1.length≤1048576
 net:w.2.2.2.2.1.2.2.2.length≤1048576
 pha:w.2.2.2.2.2.2.2.1.2.2.length≤1048576
 ang:w.2.2.2.2.2.2.2.2.length≤1048576
noncomputable def z47_ (k:Nat) (w:Wrk):Bool:=sheB k w.1&&(decide (0≤w.2.1∧w.2.1≤3)&&(colB w.2.2.1 (zv_ w.1.2.2.1 (ofC w.1.1 w.2.1)) w.1.2.1&&(colB w.2.2.2.1 (zv_ w.1.2.2.1 (ofC w.1.1 0)) w.1.2.1&&(netB w.2.2.2.2.1&&(z1x_ w.2.2.2.2.2.2.2.1&&colB w.2.2.2.2.2.2.2.2 w.2.2.2.2.2.2.2.1.1 w.2.2.2.2.2.2.2.1.2.1)))))
theorem zot_ {x:Pha} (h:z1x_ x=true):(1≤x.1∧x.1≤12)∧(2≤x.2.1∧x.2.1≤360):=by
 unfold z1x_ at h
 simp only [Bool.and_eq_true,decide_eq_true_eq] at h
 exact ⟨h.1,h.2.1⟩
theorem zv4_ {k:Nat} (hk:KK≤k) {w:Wrk} (hs:smallW w):zf9_ k w=some (z47_ k w):=by
 unfold zf9_ z47_ zid_ zie_
 rw [zue_ hk hs.sh]
 cases h1:sheB k w.1 with
 | false=>simp
 | true =>
  obtain ⟨hC,hp,hS⟩:=zoi_ hk h1
  have hsc:=zg0_ hC
  simp only [Option.bind_some,Bool.not_true,Bool.false_eq_true,if_false,z4m_,Bool.true_and]
  by_cases c2:0≤w.2.1∧w.2.1≤3
  case neg=>simp [c2]
  have hp' : -1000000≤w.1.2.1∧w.1.2.1≤1000000:=by omega
  have hc1:z44_ k w.2.2.1 (zv_ w.1.2.2.1 (ofC w.1.1 w.2.1)) w.1.2.1=some (colB w.2.2.1 (zv_ w.1.2.2.1 (ofC w.1.1 w.2.1)) w.1.2.1):=zbp_ hk hs.cl _ hp'
  have hc2:z44_ k w.2.2.2.1 (zv_ w.1.2.2.1 (ofC w.1.1 0)) w.1.2.1=some (colB w.2.2.2.1 (zv_ w.1.2.2.1 (ofC w.1.1 0)) w.1.2.1):=zbp_ hk hs.rd _ hp'
  rw [decide_eq_true c2,zjp_ hk hsc hS (by omega),zjp_ hk hsc hS (by omega)]
  simp only [Option.bind_some,Bool.not_true,Bool.false_eq_true,if_false,hc1,hc2,zuq_ hk hs.net,ztg_ hk hs.pha,Bool.true_and]
  cases colB w.2.2.1 (zv_ w.1.2.2.1 (ofC w.1.1 w.2.1)) w.1.2.1 with
  | false=>simp
  | true =>
  cases colB w.2.2.2.1 (zv_ w.1.2.2.1 (ofC w.1.1 0)) w.1.2.1 with
  | false=>simp
  | true =>
  cases netB w.2.2.2.2.1 with
  | false=>simp
  | true =>
  cases h5:z1x_ w.2.2.2.2.2.2.2.1 with
  | false=>simp
  | true =>
   obtain ⟨g1,g2⟩:=zot_ h5
   have hc3:z44_ k w.2.2.2.2.2.2.2.2 w.2.2.2.2.2.2.2.1.1 w.2.2.2.2.2.2.2.1.2.1=some (colB w.2.2.2.2.2.2.2.2 w.2.2.2.2.2.2.2.1.1 w.2.2.2.2.2.2.2.1.2.1):=zbp_ hk hs.ang _ (by omega)
   simp only [Bool.not_true,Bool.false_eq_true,if_false,if_true,hc3,Option.bind_some,Bool.true_and]
theorem zv5_ {k:Nat} (hk:KK≤k) {w:Wrk} (hs:smallW w):ze7_ k w=some (z47_ k w):=by
 unfold ze7_ z47_ zi0_ zi1_
 rw [zuf_ hk hs.sh]
 cases h1:sheB k w.1 with
 | false=>simp
 | true =>
  obtain ⟨hC,hp,hS⟩:=zoi_ hk h1
  have hsc:=zg0_ hC
  simp only [Option.bind_some,Bool.not_true,Bool.false_eq_true,if_false,z45_,Bool.true_and]
  by_cases c2:0≤w.2.1∧w.2.1≤3
  case neg=>simp [c2]
  have hp' : -1000000≤w.1.2.1∧w.1.2.1≤1000000:=by omega
  rw [decide_eq_true c2,zjq_ hk hsc hS (by omega),zjq_ hk hsc hS (by omega)]
  simp only [Option.bind_some,Bool.not_true,Bool.false_eq_true,if_false,zjv_ hk hs.cl _ hp',zjv_ hk hs.rd _ hp',zur_ hk hs.net,zth_ hk hs.pha,Bool.true_and]
  cases netB w.2.2.2.2.1 with
  | false=>simp
  | true =>
  cases h5:z1x_ w.2.2.2.2.2.2.2.1 with
  | false=>simp
  | true =>
  obtain ⟨g1,g2⟩:=zot_ h5
  simp only [Bool.not_true,Bool.false_eq_true,if_false,zjv_ hk hs.ang w.2.2.2.2.2.2.2.1.1 (p:=w.2.2.2.2.2.2.2.1.2.1) (by omega),Option.bind_some]
  cases colB w.2.2.1 (zv_ w.1.2.2.1 (ofC w.1.1 w.2.1)) w.1.2.1 with
  | false=>simp
  | true =>
  cases colB w.2.2.2.1 (zv_ w.1.2.2.1 (ofC w.1.1 0)) w.1.2.1 with
  | false=>simp
  | true=>simp
instance dec_Int64S:DecidableEq (List Int):=inferInstance
def zf_ (a:List Int):Nat:=a.length
theorem z6d_ {a:List Int} {e0:TypeId} {left:Int} (h0:0≤left) (h1:left≤1048576) (h:InR (.sl e0 (.int .i64)) a):z40_ a left=some (if (zf_ a:Int)≤left then left-(zf_ a:Int) else -1):=by
 have hl:a.length≤140737488351232:=h.1
 have hs:zf_ a=a.length:=rfl
 unfold z40_
 rw [hs,w_id (by omega) (by omega)]
 by_cases c:(a.length:Int)≤left
 ·rw [decide_eq_false (by omega),if_neg (by simp),if_pos c]
 ·rw [decide_eq_true (by omega),if_pos rfl,if_neg c]
instance dec_Int64SS:DecidableEq (List (List Int)):=inferInstance
def z1y_ (a:List (List Int)):Nat:=a.length+sumL zf_ a
theorem zv6_ {k:Nat} (hk:KK≤k) {a:List (List Int)} {e0 e1:TypeId} {left:Int} (h0:0≤left) (h1:left≤1048576) (h:InR (.sl e0 (.sl e1 (.int .i64))) a):zdf_ k a left=some (if (z1y_ a:Int)≤left then left-(z1y_ a:Int) else -1):=by
 have hl:a.length≤140737488351232:=h.1
 have hs:z1y_ a=a.length+sumL zf_ a:=rfl
 have hK:=zj_
 unfold zdf_
 rw [hs,w_id (by omega) (by omega)]
 by_cases c:(a.length:Int)≤left
 ·rw [decide_eq_false (by omega),if_neg (by simp)]
  refine Eq.trans (zon_ (L:=fun n i r=>z8g_ k n a r i fun r=>some r) (s:=zf_) a ?_ ?_ (n:=k) (by omega) (r:=left-(a.length:Int)) (by omega) (by omega)) ?_
  ·intro n i x r hi hlt hm r0 r1
   have hw:=zi_ (i:=i) (by omega)
   have hx:=z6d_ (a:=x) r0 r1 (h.2 x hm)
   simp only [z8g_,hlt,decide_true,if_true,Int.natCast_nonneg,Int.toNat_natCast,hi,Option.bind_some,hw,hx]
   by_cases c2:(zf_ x:Int)≤r
   ·rw [if_pos c2,decide_eq_false (by omega),if_neg (by simp),if_pos c2]
   ·rw [if_neg c2,decide_eq_true (by omega),if_pos rfl,if_neg c2]
  ·intro n r
   simp [z8g_]
  ·by_cases c2:(sumL zf_ a:Int)≤left-(a.length:Int)
   ·rw [if_pos c2,if_pos (by omega)]; congr 1; omega
   ·rw [if_neg c2,if_neg (by omega)]
 ·rw [decide_eq_true (by omega),if_pos rfl,if_neg (by omega)]
instance dec_Complex:DecidableEq (List (List Int)):=inferInstance
def z2o_ (a:List (List Int)):Nat:=(z1y_ a)
theorem zv7_ {k:Nat} (hk:KK≤k) {a:List (List Int)} {e0 e1:TypeId} {left:Int} (h0:0≤left) (h1:left≤1048576) (h:InR (.st (.sl e0 (.sl e1 (.int .i64)))) a):zdg_ k a left=some (if (z2o_ a:Int)≤left then left-(z2o_ a:Int) else -1):=by
 have hs:z2o_ a=(z1y_ a):=rfl
 unfold zdg_
 rw [hs]
 have q0:=zv6_ hk (a:=a) (left:=left) (by omega) (by omega) h
 rw [q0]
 by_cases c0:((z1y_ a):Int)≤left
 case neg=>rw [if_neg c0]; simp only [Option.bind_some]; rw [decide_eq_true (by omega),if_pos rfl]
 rw [if_pos c0]; simp only [Option.bind_some]
 rw [decide_eq_false (by omega),if_neg (by simp)]
instance dec_Matrix_2:DecidableEq (Int×List Int):=inferInstance
instance dec_Matrix_1:DecidableEq (Int×Int×List Int):=inferInstance
instance dec_Matrix:DecidableEq (Int×Int×Int×List Int):=inferInstance
def z1i_ (a:Int×Int×Int×List Int):Nat:=(zf_ (a.2.2.2))
theorem zv8_ {a:Int×Int×Int×List Int} {e0:TypeId} {left:Int} (h0:0≤left) (h1:left≤1048576) (h:InR (.st (.pr (.int .i64) (.pr (.int .i64) (.pr (.int .i64) (.sl e0 (.int .i64)))))) a):zdh_ a left=some (if (z1i_ a:Int)≤left then left-(z1i_ a:Int) else -1):=by
 have hs:z1i_ a=(zf_ (a.2.2.2)):=rfl
 unfold zdh_
 rw [hs]
 have q0:=z6d_ (a:=a.2.2.2) (left:=left) (by omega) (by omega) h.2.2.2
 rw [q0]
 by_cases c0:((zf_ (a.2.2.2)):Int)≤left
 case neg=>rw [if_neg c0]; simp only [Option.bind_some]; rw [decide_eq_true (by omega),if_pos rfl]
 rw [if_pos c0]; simp only [Option.bind_some]
 rw [decide_eq_false (by omega),if_neg (by simp)]
instance dec_MatrixS:DecidableEq (List (Int×Int×Int×List Int)):=inferInstance
def z1z_ (a:List (Int×Int×Int×List Int)):Nat:=a.length+sumL z1i_ a
theorem zv9_ {k:Nat} (hk:KK≤k) {a:List (Int×Int×Int×List Int)} {e0 e1:TypeId} {left:Int} (h0:0≤left) (h1:left≤1048576) (h:InR (.sl e0 (.st (.pr (.int .i64) (.pr (.int .i64) (.pr (.int .i64) (.sl e1 (.int .i64))))))) a):zdi_ k a left=some (if (z1z_ a:Int)≤left then left-(z1z_ a:Int) else -1):=by
 have hl:a.length≤140737488351232:=h.1
 have hs:z1z_ a=a.length+sumL z1i_ a:=rfl
 have hK:=zj_
 unfold zdi_
 rw [hs,w_id (by omega) (by omega)]
 by_cases c:(a.length:Int)≤left
 ·rw [decide_eq_false (by omega),if_neg (by simp)]
  refine Eq.trans (zon_ (L:=fun n i r=>z8h_ k n a r i fun r=>some r) (s:=z1i_) a ?_ ?_ (n:=k) (by omega) (r:=left-(a.length:Int)) (by omega) (by omega)) ?_
  ·intro n i x r hi hlt hm r0 r1
   have hw:=zi_ (i:=i) (by omega)
   have hx:=zv8_ (a:=x) r0 r1 (h.2 x hm)
   simp only [z8h_,hlt,decide_true,if_true,Int.natCast_nonneg,Int.toNat_natCast,hi,Option.bind_some,hw,hx]
   by_cases c2:(z1i_ x:Int)≤r
   ·rw [if_pos c2,decide_eq_false (by omega),if_neg (by simp),if_pos c2]
   ·rw [if_neg c2,decide_eq_true (by omega),if_pos rfl,if_neg c2]
  ·intro n r
   simp [z8h_]
  ·by_cases c2:(sumL z1i_ a:Int)≤left-(a.length:Int)
   ·rw [if_pos c2,if_pos (by omega)]; congr 1; omega
   ·rw [if_neg c2,if_neg (by omega)]
 ·rw [decide_eq_true (by omega),if_pos rfl,if_neg (by omega)]
instance dec_Sheaf_2:DecidableEq (List Int×(List (Int×Int×Int×List Int))):=inferInstance
instance dec_Sheaf_1:DecidableEq (Int×List Int×(List (Int×Int×Int×List Int))):=inferInstance
instance dec_Sheaf:DecidableEq (List (List Int)×Int×List Int×(List (Int×Int×Int×List Int))):=inferInstance
def zt_ (a:List (List Int)×Int×List Int×(List (Int×Int×Int×List Int))):Nat:=(z2o_ (a.1))+(zf_ (a.2.2.1))+(z1z_ (a.2.2.2))
theorem zva_ {k:Nat} (hk:KK≤k) {a:List (List Int)×Int×List Int×(List (Int×Int×Int×List Int))} {e0 e1 e2 e3 e4:TypeId} {left:Int} (h0:0≤left) (h1:left≤1048576) (h:InR (.st (.pr (.st (.sl e0 (.sl e1 (.int .i64)))) (.pr (.int .i64) (.pr (.sl e2 (.int .i64)) (.sl e3 (.st (.pr (.int .i64) (.pr (.int .i64) (.pr (.int .i64) (.sl e4 (.int .i64))))))))))) a):zdj_ k a left=some (if (zt_ a:Int)≤left then left-(zt_ a:Int) else -1):=by
 have hs:zt_ a=(z2o_ (a.1))+(zf_ (a.2.2.1))+(z1z_ (a.2.2.2)):=rfl
 unfold zdj_
 rw [hs]
 have q0:=zv7_ hk (a:=a.1) (left:=left) (by omega) (by omega) h.1
 rw [q0]
 by_cases c0:((z2o_ (a.1)):Int)≤left
 case neg=>rw [if_neg c0]; simp only [Option.bind_some]; rw [decide_eq_true (by omega),if_pos rfl,if_neg (by omega)]
 rw [if_pos c0]; simp only [Option.bind_some]
 rw [decide_eq_false (by omega),if_neg (by simp)]
 have q1:=z6d_ (a:=a.2.2.1) (left:=left-((z2o_ (a.1)):Int)) (by omega) (by omega) h.2.2.1
 rw [q1]
 by_cases c1:((zf_ (a.2.2.1)):Int)≤left-((z2o_ (a.1)):Int)
 case neg=>rw [if_neg c1]; simp only [Option.bind_some]; rw [decide_eq_true (by omega),if_pos rfl,if_neg (by omega)]
 rw [if_pos c1]; simp only [Option.bind_some]
 rw [decide_eq_false (by omega),if_neg (by simp)]
 have q2:=zv9_ hk (a:=a.2.2.2) (left:=left-((z2o_ (a.1)):Int)-((zf_ (a.2.2.1)):Int)) (by omega) (by omega) h.2.2.2
 rw [q2]
 by_cases c2:((z1z_ (a.2.2.2)):Int)≤left-((z2o_ (a.1)):Int)-((zf_ (a.2.2.1)):Int)
 case neg=>rw [if_neg c2]; simp only [Option.bind_some]; rw [decide_eq_true (by omega),if_pos rfl,if_neg (by omega)]
 rw [if_pos c2]; simp only [Option.bind_some]
 rw [decide_eq_false (by omega),if_neg (by simp)]
 rw [if_pos (by omega)]; congr 1; omega
theorem zvb_ {s:She} (h:zt_ s≤1048576):smallSh s:=by
 have e:zt_ s=s.1.length+sumL List.length s.1+s.2.2.1.length+(s.2.2.2.length+sumL z1i_ s.2.2.2):=rfl
 refine ⟨⟨by omega,fun x hx=>by have:=z5g_ List.length hx; omega⟩,by omega,by omega,fun m hm=>?_⟩
 have h1:=z5g_ z1i_ hm
 have h2:z1i_ m=m.2.2.2.length:=rfl
 omega
instance dec_ArcS:DecidableEq (List (Int×Int×Int)):=inferInstance
def z32_ (a:List (Int×Int×Int)):Nat:=a.length
theorem zvc_ {a:List (Int×Int×Int)} {e0:TypeId} {left:Int} (h0:0≤left) (h1:left≤1048576) (h:InR (.sl e0 (.st (.pr (.int .i64) (.pr (.int .i64) (.int .i64))))) a):zdk_ a left=some (if (z32_ a:Int)≤left then left-(z32_ a:Int) else -1):=by
 have hl:a.length≤140737488351232:=h.1
 have hs:z32_ a=a.length:=rfl
 unfold zdk_
 rw [hs,w_id (by omega) (by omega)]
 by_cases c:(a.length:Int)≤left
 ·rw [decide_eq_false (by omega),if_neg (by simp),if_pos c]
 ·rw [decide_eq_true (by omega),if_pos rfl,if_neg c]
instance dec_Network_2:DecidableEq (Int×(List (Int×Int×Int))):=inferInstance
instance dec_Network_1:DecidableEq (Int×Int×(List (Int×Int×Int))):=inferInstance
instance dec_Network:DecidableEq (Int×Int×Int×(List (Int×Int×Int))):=inferInstance
def z1t_ (a:Int×Int×Int×(List (Int×Int×Int))):Nat:=(z32_ (a.2.2.2))
theorem zvd_ {a:Int×Int×Int×(List (Int×Int×Int))} {e0:TypeId} {left:Int} (h0:0≤left) (h1:left≤1048576) (h:InR (.st (.pr (.int .i64) (.pr (.int .i64) (.pr (.int .i64) (.sl e0 (.st (.pr (.int .i64) (.pr (.int .i64) (.int .i64))))))))) a):zdl_ a left=some (if (z1t_ a:Int)≤left then left-(z1t_ a:Int) else -1):=by
 have hs:z1t_ a=(z32_ (a.2.2.2)):=rfl
 unfold zdl_
 rw [hs]
 have q0:=zvc_ (a:=a.2.2.2) (left:=left) (by omega) (by omega) h.2.2.2
 rw [q0]
 by_cases c0:((z32_ (a.2.2.2)):Int)≤left
 case neg=>rw [if_neg c0]; simp only [Option.bind_some]; rw [decide_eq_true (by omega),if_pos rfl]
 rw [if_pos c0]; simp only [Option.bind_some]
 rw [decide_eq_false (by omega),if_neg (by simp)]
instance dec_TurnS:DecidableEq (List (Int×Int×Int)):=inferInstance
def z33_ (a:List (Int×Int×Int)):Nat:=a.length
theorem zve_ {a:List (Int×Int×Int)} {e0:TypeId} {left:Int} (h0:0≤left) (h1:left≤1048576) (h:InR (.sl e0 (.st (.pr (.int .i64) (.pr (.int .i64) (.int .i64))))) a):zdm_ a left=some (if (z33_ a:Int)≤left then left-(z33_ a:Int) else -1):=by
 have hl:a.length≤140737488351232:=h.1
 have hs:z33_ a=a.length:=rfl
 unfold zdm_
 rw [hs,w_id (by omega) (by omega)]
 by_cases c:(a.length:Int)≤left
 ·rw [decide_eq_false (by omega),if_neg (by simp),if_pos c]
 ·rw [decide_eq_true (by omega),if_pos rfl,if_neg c]
instance dec_Phases_1:DecidableEq (Int×(List (Int×Int×Int))):=inferInstance
instance dec_Phases:DecidableEq (Int×Int×(List (Int×Int×Int))):=inferInstance
def z34_ (a:Int×Int×(List (Int×Int×Int))):Nat:=(z33_ (a.2.2))
theorem zvf_ {a:Int×Int×(List (Int×Int×Int))} {e0:TypeId} {left:Int} (h0:0≤left) (h1:left≤1048576) (h:InR (.st (.pr (.int .i64) (.pr (.int .i64) (.sl e0 (.st (.pr (.int .i64) (.pr (.int .i64) (.int .i64)))))))) a):zdn_ a left=some (if (z34_ a:Int)≤left then left-(z34_ a:Int) else -1):=by
 have hs:z34_ a=(z33_ (a.2.2)):=rfl
 unfold zdn_
 rw [hs]
 have q0:=zve_ (a:=a.2.2) (left:=left) (by omega) (by omega) h.2.2
 rw [q0]
 by_cases c0:((z33_ (a.2.2)):Int)≤left
 case neg=>rw [if_neg c0]; simp only [Option.bind_some]; rw [decide_eq_true (by omega),if_pos rfl]
 rw [if_pos c0]; simp only [Option.bind_some]
 rw [decide_eq_false (by omega),if_neg (by simp)]
instance dec_Work_7:DecidableEq ((Int×Int×(List (Int×Int×Int)))×List Int):=inferInstance
instance dec_Work_6:DecidableEq (List Int×(Int×Int×(List (Int×Int×Int)))×List Int):=inferInstance
instance dec_Work_5:DecidableEq (List Int×List Int×(Int×Int×(List (Int×Int×Int)))×List Int):=inferInstance
instance dec_Work_4:DecidableEq ((Int×Int×Int×(List (Int×Int×Int)))×List Int×List Int×(Int×Int×(List (Int×Int×Int)))×List Int):=inferInstance
instance dec_Work_3:DecidableEq (List Int×(Int×Int×Int×(List (Int×Int×Int)))×List Int×List Int×(Int×Int×(List (Int×Int×Int)))×List Int):=inferInstance
instance dec_Work_2:DecidableEq (List Int×List Int×(Int×Int×Int×(List (Int×Int×Int)))×List Int×List Int×(Int×Int×(List (Int×Int×Int)))×List Int):=inferInstance
instance dec_Work_1:DecidableEq (Int×List Int×List Int×(Int×Int×Int×(List (Int×Int×Int)))×List Int×List Int×(Int×Int×(List (Int×Int×Int)))×List Int):=inferInstance
instance dec_Work:DecidableEq ((List (List Int)×Int×List Int×(List (Int×Int×Int×List Int)))×Int×List Int×List Int×(Int×Int×Int×(List (Int×Int×Int)))×List Int×List Int×(Int×Int×(List (Int×Int×Int)))×List Int):=inferInstance
def z15_ (a:(List (List Int)×Int×List Int×(List (Int×Int×Int×List Int)))×Int×List Int×List Int×(Int×Int×Int×(List (Int×Int×Int)))×List Int×List Int×(Int×Int×(List (Int×Int×Int)))×List Int):Nat:=(zt_ (a.1))+(zf_ (a.2.2.1))+(zf_ (a.2.2.2.1))+(z1t_ (a.2.2.2.2.1))+(zf_ (a.2.2.2.2.2.1))+(zf_ (a.2.2.2.2.2.2.1))+(z34_ (a.2.2.2.2.2.2.2.1))+(zf_ (a.2.2.2.2.2.2.2.2))
theorem zvg_ {k:Nat} (hk:KK≤k) {a:(List (List Int)×Int×List Int×(List (Int×Int×Int×List Int)))×Int×List Int×List Int×(Int×Int×Int×(List (Int×Int×Int)))×List Int×List Int×(Int×Int×(List (Int×Int×Int)))×List Int} {e0 e1 e2 e3 e4 e5 e6 e7 e8 e9 e10 e11:TypeId} {left:Int} (h0:0≤left) (h1:left≤1048576) (h:InR (.st (.pr (.st (.pr (.st (.sl e0 (.sl e1 (.int .i64)))) (.pr (.int .i64) (.pr (.sl e2 (.int .i64)) (.sl e3 (.st (.pr (.int .i64) (.pr (.int .i64) (.pr (.int .i64) (.sl e4 (.int .i64))))))))))) (.pr (.int .i64) (.pr (.sl e5 (.int .i64)) (.pr (.sl e6 (.int .i64)) (.pr (.st (.pr (.int .i64) (.pr (.int .i64) (.pr (.int .i64) (.sl e7 (.st (.pr (.int .i64) (.pr (.int .i64) (.int .i64))))))))) (.pr (.sl e8 (.int .i64)) (.pr (.sl e9 (.int .i64)) (.pr (.st (.pr (.int .i64) (.pr (.int .i64) (.sl e10 (.st (.pr (.int .i64) (.pr (.int .i64) (.int .i64)))))))) (.sl e11 (.int .i64))))))))))) a):zdo_ k a left=some (if (z15_ a:Int)≤left then left-(z15_ a:Int) else -1):=by
 have hs:z15_ a=(zt_ (a.1))+(zf_ (a.2.2.1))+(zf_ (a.2.2.2.1))+(z1t_ (a.2.2.2.2.1))+(zf_ (a.2.2.2.2.2.1))+(zf_ (a.2.2.2.2.2.2.1))+(z34_ (a.2.2.2.2.2.2.2.1))+(zf_ (a.2.2.2.2.2.2.2.2)):=rfl
 unfold zdo_
 rw [hs]
 have q0:=zva_ hk (a:=a.1) (left:=left) (by omega) (by omega) h.1
 rw [q0]
 by_cases c0:((zt_ (a.1)):Int)≤left
 case neg=>rw [if_neg c0]; simp only [Option.bind_some]; rw [decide_eq_true (by omega),if_pos rfl,if_neg (by omega)]
 rw [if_pos c0]; simp only [Option.bind_some]
 rw [decide_eq_false (by omega),if_neg (by simp)]
 have q1:=z6d_ (a:=a.2.2.1) (left:=left-((zt_ (a.1)):Int)) (by omega) (by omega) h.2.2.1
 rw [q1]
 by_cases c1:((zf_ (a.2.2.1)):Int)≤left-((zt_ (a.1)):Int)
 case neg=>rw [if_neg c1]; simp only [Option.bind_some]; rw [decide_eq_true (by omega),if_pos rfl,if_neg (by omega)]
 rw [if_pos c1]; simp only [Option.bind_some]
 rw [decide_eq_false (by omega),if_neg (by simp)]
 have q2:=z6d_ (a:=a.2.2.2.1) (left:=left-((zt_ (a.1)):Int)-((zf_ (a.2.2.1)):Int)) (by omega) (by omega) h.2.2.2.1
 rw [q2]
 by_cases c2:((zf_ (a.2.2.2.1)):Int)≤left-((zt_ (a.1)):Int)-((zf_ (a.2.2.1)):Int)
 case neg=>rw [if_neg c2]; simp only [Option.bind_some]; rw [decide_eq_true (by omega),if_pos rfl,if_neg (by omega)]
 rw [if_pos c2]; simp only [Option.bind_some]
 rw [decide_eq_false (by omega),if_neg (by simp)]
 have q3:=zvd_ (a:=a.2.2.2.2.1) (left:=left-((zt_ (a.1)):Int)-((zf_ (a.2.2.1)):Int)-((zf_ (a.2.2.2.1)):Int)) (by omega) (by omega) h.2.2.2.2.1
 rw [q3]
 by_cases c3:((z1t_ (a.2.2.2.2.1)):Int)≤left-((zt_ (a.1)):Int)-((zf_ (a.2.2.1)):Int)-((zf_ (a.2.2.2.1)):Int)
 case neg=>rw [if_neg c3]; simp only [Option.bind_some]; rw [decide_eq_true (by omega),if_pos rfl,if_neg (by omega)]
 rw [if_pos c3]; simp only [Option.bind_some]
 rw [decide_eq_false (by omega),if_neg (by simp)]
 have q4:=z6d_ (a:=a.2.2.2.2.2.1) (left:=left-((zt_ (a.1)):Int)-((zf_ (a.2.2.1)):Int)-((zf_ (a.2.2.2.1)):Int)-((z1t_ (a.2.2.2.2.1)):Int)) (by omega) (by omega) h.2.2.2.2.2.1
 rw [q4]
 by_cases c4:((zf_ (a.2.2.2.2.2.1)):Int)≤left-((zt_ (a.1)):Int)-((zf_ (a.2.2.1)):Int)-((zf_ (a.2.2.2.1)):Int)-((z1t_ (a.2.2.2.2.1)):Int)
 case neg=>rw [if_neg c4]; simp only [Option.bind_some]; rw [decide_eq_true (by omega),if_pos rfl,if_neg (by omega)]
 rw [if_pos c4]; simp only [Option.bind_some]
 rw [decide_eq_false (by omega),if_neg (by simp)]
 have q5:=z6d_ (a:=a.2.2.2.2.2.2.1) (left:=left-((zt_ (a.1)):Int)-((zf_ (a.2.2.1)):Int)-((zf_ (a.2.2.2.1)):Int)-((z1t_ (a.2.2.2.2.1)):Int)-((zf_ (a.2.2.2.2.2.1)):Int)) (by omega) (by omega) h.2.2.2.2.2.2.1
 rw [q5]
 by_cases c5:((zf_ (a.2.2.2.2.2.2.1)):Int)≤left-((zt_ (a.1)):Int)-((zf_ (a.2.2.1)):Int)-((zf_ (a.2.2.2.1)):Int)-((z1t_ (a.2.2.2.2.1)):Int)-((zf_ (a.2.2.2.2.2.1)):Int)
 case neg=>rw [if_neg c5]; simp only [Option.bind_some]; rw [decide_eq_true (by omega),if_pos rfl,if_neg (by omega)]
 rw [if_pos c5]; simp only [Option.bind_some]
 rw [decide_eq_false (by omega),if_neg (by simp)]
 have q6:=zvf_ (a:=a.2.2.2.2.2.2.2.1) (left:=left-((zt_ (a.1)):Int)-((zf_ (a.2.2.1)):Int)-((zf_ (a.2.2.2.1)):Int)-((z1t_ (a.2.2.2.2.1)):Int)-((zf_ (a.2.2.2.2.2.1)):Int)-((zf_ (a.2.2.2.2.2.2.1)):Int)) (by omega) (by omega) h.2.2.2.2.2.2.2.1
 rw [q6]
 by_cases c6:((z34_ (a.2.2.2.2.2.2.2.1)):Int)≤left-((zt_ (a.1)):Int)-((zf_ (a.2.2.1)):Int)-((zf_ (a.2.2.2.1)):Int)-((z1t_ (a.2.2.2.2.1)):Int)-((zf_ (a.2.2.2.2.2.1)):Int)-((zf_ (a.2.2.2.2.2.2.1)):Int)
 case neg=>rw [if_neg c6]; simp only [Option.bind_some]; rw [decide_eq_true (by omega),if_pos rfl,if_neg (by omega)]
 rw [if_pos c6]; simp only [Option.bind_some]
 rw [decide_eq_false (by omega),if_neg (by simp)]
 have q7:=z6d_ (a:=a.2.2.2.2.2.2.2.2) (left:=left-((zt_ (a.1)):Int)-((zf_ (a.2.2.1)):Int)-((zf_ (a.2.2.2.1)):Int)-((z1t_ (a.2.2.2.2.1)):Int)-((zf_ (a.2.2.2.2.2.1)):Int)-((zf_ (a.2.2.2.2.2.2.1)):Int)-((z34_ (a.2.2.2.2.2.2.2.1)):Int)) (by omega) (by omega) h.2.2.2.2.2.2.2.2
 rw [q7]
 by_cases c7:((zf_ (a.2.2.2.2.2.2.2.2)):Int)≤left-((zt_ (a.1)):Int)-((zf_ (a.2.2.1)):Int)-((zf_ (a.2.2.2.1)):Int)-((z1t_ (a.2.2.2.2.1)):Int)-((zf_ (a.2.2.2.2.2.1)):Int)-((zf_ (a.2.2.2.2.2.2.1)):Int)-((z34_ (a.2.2.2.2.2.2.2.1)):Int)
 case neg=>rw [if_neg c7]; simp only [Option.bind_some]; rw [decide_eq_true (by omega),if_pos rfl,if_neg (by omega)]
 rw [if_pos c7]; simp only [Option.bind_some]
 rw [decide_eq_false (by omega),if_neg (by simp)]
 rw [if_pos (by omega)]; congr 1; omega
theorem zvh_ {w:Wrk} (h:z15_ w≤1048576):smallW w:=by
 have e:z15_ w=zt_ w.1+w.2.2.1.length+w.2.2.2.1.length+w.2.2.2.2.1.2.2.2.length+w.2.2.2.2.2.1.length+w.2.2.2.2.2.2.1.length+w.2.2.2.2.2.2.2.1.2.2.length+w.2.2.2.2.2.2.2.2.length:=rfl
 exact ⟨zvb_ (by omega),by omega,by omega,by omega,by omega,by omega⟩
def mkI (_:Int) (m:Int):Int×Int:=(m,m+((1:Nat):Int))
theorem zk5_:∀ (x:Int) (m:Int),(mkI x m).2=m+(((fun _:Int=>1) x:Nat):Int):=fun _ _=>rfl
theorem zvi_ {k:Nat} (hk:KK≤k) {q:List (List Int)} {a:Nat} {z:List Int} (hz:q[a]?=some z) {m:Int} (h0:0≤m) (h1:m≤1000000000000000000) (hl:z.length≤1000000000000) :
  zer_ k a m q=some ((m+(z.length:Int),()),(q.set a (mkL mkI z m).1,()),()):=by
 have hK:=zj_
 have ha:=(List.getElem?_eq_some_iff.1 hz).1
 have hs:=zg5_ z
 unfold zer_
 have e:q=q.set a z:=by
  obtain ⟨h,rfl⟩:=List.getElem?_eq_some_iff.1 hz
  exact (List.set_getElem_self h).symm
 have:=z6b_ zk5_ z (m0:=m) (B:=2000000000000000000) (by omega) (S:=fun l=>q.set a l) (L:=fun n m i q=>z91_ k n a m i q (fun k_10 q_11=>some ((k_10,()),(q_11,()),())))
  (G:=some ((m+(z.length:Int),()),(q.set a (mkL mkI z m).1,()),())) ?_ ?_ (n:=k) (by omega)
 ·rw [← e] at this
  exact this
 ·intro n i m l y hll hg hy m0 m1 hlt hlt'
  have hw:=zi_ (i:=i) (by omega)
  have hm:z0_ (m+1)=m+((1:Nat):Int):=w_id (by omega) (by omega)
  simp only [z91_,List.getElem?_set_self ha,Option.bind_some,hlt,hlt',decide_true,if_true,Int.natCast_nonneg,Int.toNat_natCast,and_self,List.getElem?_eq_getElem hlt',hm,hw,List.set_set,mkI]
 ·intro n l hl2 hll
  have:¬ (z.length:Int)<(l.length:Int):=by omega
  simp only [z91_,List.getElem?_set_self ha,Option.bind_some,this,decide_false,Bool.false_eq_true,if_false,hs]
  rw [hl2]
def mkIS (z:List Int) (m:Int):List Int×Int:=((mkL mkI z m).1,m+(z.length:Int))
theorem zvj_ (z:List Int) (m:Int):(mkIS z m).2=m+(z.length:Int):=rfl
theorem zvk_ {k:Nat} (hk:KK≤k) {L:List (List Int)} {m:Int} (h0:0≤m) (h1:m+(sumL List.length L:Int)≤100000000000000000) (hx:∀ x∈L,x.length≤1000000000000) (hL:L.length≤1000000000000) :
  zes_ k m L=some ((m+(sumL List.length L:Int),()),((mkL mkIS L m).1,()),()):=by
 have hK:=zj_
 unfold zes_
 refine z6b_ zvj_ L (m0:=m) (B:=100000000000000000) h1 (S:=fun l=>l) (L:=fun n m i q=>z92_ k n m i q (fun k_5 q_6=>some ((k_5,()),(q_6,()),()))) ?_ ?_ (n:=k) (by omega)
 ·intro n i m' l y hll hg hy m0 m1 hlt hlt'
  have hw:=zi_ (i:=i) (by omega)
  have st:=zvi_ hk hg (m:=m') (by omega) (by omega) (hx y hy)
  simp only [z92_,hlt,hlt',decide_true,if_true,Option.bind_some,Int.natCast_nonneg,Int.toNat_natCast,and_self,hg,st,hw]
  rfl
 ·intro n l hl2 hll
  have:¬ (L.length:Int)<(l.length:Int):=by omega
  simp only [z92_,this,decide_false,Bool.false_eq_true,if_false]
  rw [hl2]
theorem zvl_ {k:Nat} (hk:KK≤k) {a:List Int} {m:Int} (h0:0≤m) (h1:m≤1000000000000000000) (hl:a.length≤1000000000000) :
  z57_ k m a=some ((m+(a.length:Int),()),((mkL mkI a m).1,()),()):=by
 have hK:=zj_
 have hs:=zg5_ a
 unfold z57_
 refine z6b_ zk5_ a (m0:=m) (B:=2000000000000000000) (by omega) (S:=fun l=>l) (L:=fun n m i q=>z93_ k n m i q (fun k_5 q_6=>some ((k_5,()),(q_6,()),()))) ?_ ?_ (n:=k) (by omega)
 ·intro n i m l y hll hg hy m0 m1 hlt hlt'
  have hw:=zi_ (i:=i) (by omega)
  have hm:z0_ (m+1)=m+((1:Nat):Int):=w_id (by omega) (by omega)
  simp only [z93_,Option.bind_some,hlt,hlt',decide_true,if_true,Int.natCast_nonneg,Int.toNat_natCast,and_self,List.getElem?_eq_getElem hlt',hm,hw,mkI]
 ·intro n l hl2 hll
  have:¬ (a.length:Int)<(l.length:Int):=by omega
  simp only [z93_,this,decide_false,Bool.false_eq_true,if_false,hs]
  rw [hl2]
theorem zou_ {α:Type} {f g:α→Nat} {c:Nat}:∀ {l:List α},(∀ x∈l,f x≤g x+c)→sumL f l≤sumL g l+c*l.length
 | [],_=>by simp [z7m_]
 | x::l,h=>by
  have h1:=h x (by simp)
  have h2:=zou_ (f:=f) (g:=g) (c:=c) (l:=l) fun y hy=>h y (by simp [hy])
  rw [z3l_,z3l_,List.length_cons,Nat.mul_succ]
  omega
theorem zvm_ {k:Nat} (hk:KK≤k) {q:List Mat} {a:Nat} {z:Mat} (hz:q[a]?=some z) {m:Int} (h0:0≤m) (h1:m≤1000000000000000000) (hl:z.2.2.2.length≤1000000000000) :
  zet_ k a m q=some ((m+(z.2.2.2.length:Int),()),(q.set a (z.1,z.2.1,z.2.2.1,(mkL mkI z.2.2.2 m).1),()),()):=by
 have hK:=zj_
 have ha:=(List.getElem?_eq_some_iff.1 hz).1
 have hs:=zg5_ z.2.2.2
 unfold zet_
 have e:q=q.set a (z.1,z.2.1,z.2.2.1,z.2.2.2):=by
  obtain ⟨h,rfl⟩:=List.getElem?_eq_some_iff.1 hz
  exact (List.set_getElem_self h).symm
 have:=z6b_ zk5_ z.2.2.2 (m0:=m) (B:=2000000000000000000) (by omega) (S:=fun l=>q.set a (z.1,z.2.1,z.2.2.1,l)) (L:=fun n m i q=>z94_ k n a m i q (fun k_10 q_11=>some ((k_10,()),(q_11,()),())))
  (G:=some ((m+(z.2.2.2.length:Int),()),(q.set a (z.1,z.2.1,z.2.2.1,(mkL mkI z.2.2.2 m).1),()),())) ?_ ?_ (n:=k) (by omega)
 ·rw [← e] at this
  exact this
 ·intro n i m l y hll hg hy m0 m1 hlt hlt'
  have hw:=zi_ (i:=i) (by omega)
  have hm:z0_ (m+1)=m+((1:Nat):Int):=w_id (by omega) (by omega)
  simp only [z94_,List.getElem?_set_self ha,Option.bind_some,hlt,hlt',decide_true,if_true,Int.natCast_nonneg,Int.toNat_natCast,and_self,List.getElem?_eq_getElem hlt',hm,hw,List.set_set,mkI]
 ·intro n l hl2 hll
  have:¬ (z.2.2.2.length:Int)<(l.length:Int):=by omega
  simp only [z94_,List.getElem?_set_self ha,Option.bind_some,this,decide_false,Bool.false_eq_true,if_false,hs]
  rw [hl2]
def ctM (x:Mat):Nat:=x.2.2.2.length+3
def mkMt (x:Mat) (m:Int):Mat×Int:=((m,m+1,m+1+1,(mkL mkI x.2.2.2 (m+1+1+1)).1),m+(ctM x:Int))
theorem zvn_ (x:Mat) (m:Int):(mkMt x m).2=m+(ctM x:Int):=rfl
theorem zvo_ {k:Nat} (hk:KK≤k) {L:List Mat} {m:Int} (h0:0≤m) (h1:m+(sumL ctM L:Int)≤10000000000000000) (hx:∀ x∈L,x.2.2.2.length≤1000000000000) (hL:L.length≤1000000000000) :
  zeu_ k m L=some ((m+(sumL ctM L:Int),()),((mkL mkMt L m).1,()),()):=by
 have hK:=zj_
 unfold zeu_
 refine z6b_ zvn_ L (m0:=m) (B:=10000000000000000) h1 (S:=fun l=>l) (L:=fun n m i q=>z95_ k n m i q (fun k_11 q_12=>some ((k_11,()),(q_12,()),()))) ?_ ?_ (n:=k) (by omega)
 ·intro n i m' l y hll hg hy m0 m1 hlt hlt'
  have hw:=zi_ (i:=i) (by omega)
  have hc:ctM y=y.2.2.2.length+3:=rfl
  have w1:z0_ (m'+1)=m'+1:=w_id (by omega) (by omega)
  have w2:z0_ (m'+1+1)=m'+1+1:=w_id (by omega) (by omega)
  have w3:z0_ (m'+1+1+1)=m'+1+1+1:=w_id (by omega) (by omega)
  have st:=zvm_ hk (q:=l.set i (m',m'+1,m'+1+1,y.2.2.2)) (a:=i) (z:=(m',m'+1,m'+1+1,y.2.2.2)) (List.getElem?_set_self hlt') (m:=m'+1+1+1) (by omega) (by omega) (hx y hy)
  have e:m'+1+1+1+(y.2.2.2.length:Int)=m'+(ctM y:Int):=by omega
  simp only [z95_,hlt,hlt',decide_true,if_true,Option.bind_some,Int.natCast_nonneg,Int.toNat_natCast,and_self,hg,List.length_set,List.getElem?_set_self hlt',w1,w2,w3,List.set_set,st,e,hw]
  rfl
 ·intro n l hl2 hll
  have:¬ (L.length:Int)<(l.length:Int):=by omega
  simp only [z95_,this,decide_false,Bool.false_eq_true,if_false]
  rw [hl2]
def mkAr (_:Edg) (m:Int):Edg×Int:=((m,m+1,m+1+1),m+((3:Nat):Int))
theorem zov_:∀ (x:Edg) (m:Int),(mkAr x m).2=m+(((fun _:Edg=>3) x:Nat):Int):=fun _ _=>rfl
theorem zvp_ {k:Nat} (hk:KK≤k) {L:List Edg} {m:Int} (h0:0≤m) (h1:m+(sumL (fun _:Edg=>3) L:Int)≤10000000000000000) (hL:L.length≤1000000000000) :
  zev_ k m L=some ((m+(sumL (fun _:Edg=>3) L:Int),()),((mkL mkAr L m).1,()),()):=by
 have hK:=zj_
 unfold zev_
 refine z6b_ zov_ L (m0:=m) (B:=10000000000000000) h1 (S:=fun l=>l) (L:=fun n m i q=>z96_ k n m i q (fun k_9 q_10=>some ((k_9,()),(q_10,()),()))) ?_ ?_ (n:=k) (by omega)
 ·intro n i m' l y hll hg hy m0 m1 hlt hlt'
  have hw:=zi_ (i:=i) (by omega)
  have w1:z0_ (m'+1)=m'+1:=w_id (by omega) (by omega)
  have w2:z0_ (m'+1+1)=m'+1+1:=w_id (by omega) (by omega)
  have w3:z0_ (m'+1+1+1)=m'+((3:Nat):Int):=by rw [w_id (by omega) (by omega)]; omega
  simp only [z96_,hlt,hlt',decide_true,if_true,Option.bind_some,Int.natCast_nonneg,Int.toNat_natCast,and_self,hg,List.length_set,List.getElem?_set_self hlt',w1,w2,w3,List.set_set,hw]
  rfl
 ·intro n l hl2 hll
  have:¬ (L.length:Int)<(l.length:Int):=by omega
  simp only [z96_,this,decide_false,Bool.false_eq_true,if_false]
  rw [hl2]
theorem zvq_ {k:Nat} (hk:KK≤k) {L:List Edg} {m:Int} (h0:0≤m) (h1:m+(sumL (fun _:Edg=>3) L:Int)≤10000000000000000) (hL:L.length≤1000000000000) :
  zew_ k m L=some ((m+(sumL (fun _:Edg=>3) L:Int),()),((mkL mkAr L m).1,()),()):=by
 have hK:=zj_
 unfold zew_
 refine z6b_ zov_ L (m0:=m) (B:=10000000000000000) h1 (S:=fun l=>l) (L:=fun n m i q=>z97_ k n m i q (fun k_9 q_10=>some ((k_9,()),(q_10,()),()))) ?_ ?_ (n:=k) (by omega)
 ·intro n i m' l y hll hg hy m0 m1 hlt hlt'
  have hw:=zi_ (i:=i) (by omega)
  have w1:z0_ (m'+1)=m'+1:=w_id (by omega) (by omega)
  have w2:z0_ (m'+1+1)=m'+1+1:=w_id (by omega) (by omega)
  have w3:z0_ (m'+1+1+1)=m'+((3:Nat):Int):=by rw [w_id (by omega) (by omega)]; omega
  simp only [z97_,hlt,hlt',decide_true,if_true,Option.bind_some,Int.natCast_nonneg,Int.toNat_natCast,and_self,hg,List.length_set,List.getElem?_set_self hlt',w1,w2,w3,List.set_set,hw]
  rfl
 ·intro n l hl2 hll
  have:¬ (L.length:Int)<(l.length:Int):=by omega
  simp only [z97_,this,decide_false,Bool.false_eq_true,if_false]
  rw [hl2]
theorem zg8_ {α:Type}:∀ l:List α,sumL (fun _=>3) l=3*l.length
 | []=>rfl
 | x::l=>by rw [z3l_,zg8_ l,List.length_cons]; omega
theorem zvr_ {k:Nat} (hk:KK≤k) (a1 a2 a3 a4 a5 a6 a7:Int) {q1:List (List Int)} {q2:List Int} {q3:List Mat} {q4 q5:List Int} {q6:List Edg} {q7 q8:List Int} {q9:List Edg} {q10:List Int}
  (h1:z1y_ q1≤1048576) (h2:q2.length≤1048576) (h3:z1z_ q3≤1048576) (h4:q4.length≤1048576) (h5:q5.length≤1048576) (h6:q6.length≤1048576) (h7:q7.length≤1048576) (h8:q8.length≤1048576) (h9:q9.length≤1048576) (h10:q10.length≤1048576) :
  ∃ y,zbb_ k a1 a2 a3 a4 a5 a6 a7 1 q1 q2 q3 q4 q5 q6 q7 q8 q9 q10=some y∧¬ y.1.1<0:=by
 have e1:z1y_ q1=q1.length+sumL List.length q1:=rfl
 have e3:z1z_ q3=q3.length+sumL z1i_ q3:=rfl
 have c3:sumL ctM q3≤sumL z1i_ q3+3*q3.length:=zou_ fun x _=>by
  have a:ctM x=x.2.2.2.length+3:=rfl
  have b:z1i_ x=x.2.2.2.length:=rfl
  omega
 have s1:=zvk_ hk (L:=q1) (m:=1) (by omega) (by omega) (fun x hx=>by have:=z5g_ List.length hx; omega) (by omega)
 have s2:=fun (q:List Int) (hq:q.length≤1048576) m (h0:0≤m) (h1:m≤1000000000)=>zvl_ hk (a:=q) (m:=m) h0 (by omega) (by omega)
 have s3:=fun m (h0:0≤m) (h1:m≤1000000000)=>zvo_ hk (L:=q3) (m:=m) h0 (by omega) (fun x hx=>by have:=z5g_ z1i_ hx; have b:z1i_ x=x.2.2.2.length:=rfl; omega) (by omega)
 have s6:=fun m (h0:0≤m) (h1:m≤1000000000)=>zvp_ hk (L:=q6) (m:=m) h0 (by rw [zg8_]; omega) (by omega)
 have s9:=fun m (h0:0≤m) (h1:m≤1000000000)=>zvq_ hk (L:=q9) (m:=m) h0 (by rw [zg8_]; omega) (by omega)
 rw [zg8_] at s6 s9
 unfold zbb_ zi8_ zi7_ zi9_ zia_
 rw [s1]
 simp only [Option.bind_some]
 rw [s2 q2 h2 _ (by omega) (by omega)]
 simp only [Option.bind_some]
 rw [s3 _ (by omega) (by omega)]
 simp only [Option.bind_some]
 rw [s2 q4 h4 _ (by omega) (by omega)]
 simp only [Option.bind_some]
 rw [s2 q5 h5 _ (by omega) (by omega)]
 simp only [Option.bind_some]
 rw [s6 _ (by omega) (by omega)]
 simp only [Option.bind_some]
 rw [s2 q7 h7 _ (by omega) (by omega)]
 simp only [Option.bind_some]
 rw [s2 q8 h8 _ (by omega) (by omega)]
 simp only [Option.bind_some]
 rw [s9 _ (by omega) (by omega)]
 simp only [Option.bind_some]
 rw [s2 q10 h10 _ (by omega) (by omega)]
 refine ⟨_,rfl,?_⟩
 simp only
 omega
theorem z6e_ {k:Nat} (hk:KK≤k) {a:List Int} (h:zf_ a≤10000000000):z41_ k a=some a:=by
 have hl:a.length≤10000000000:=Nat.le_trans (show a.length≤zf_ a by unfold zf_; omega) h
 unfold z41_
 have hL:=z2b_
 rw [if_pos ⟨by omega,Int.le_refl _,by omega⟩]
 refine zb6_ (L:=fun n i q=>z8i_ k n a i q fun q_5=>some q_5) (e:=fun q=>some q) a _ (by simp) ?_ ?_ (n:=k) (by have:=zj_; omega)
 ·intro n i x q hx hlt hq
  have hw:=zi_ (i:=i) (by omega)
  have hi:i<q.length:=by omega
  simp [z8i_,hlt,hx,hw,hi]
 ·intro n q
  simp [z8i_]
theorem zvs_ {k:Nat} (hk:KK≤k) {a:List (List Int)} (h:z1y_ a≤10000000000):zdp_ k a=some a:=by
 have hl:a.length≤10000000000:=Nat.le_trans (show a.length≤z1y_ a by unfold z1y_; omega) h
 unfold zdp_
 have hL:=z2b_
 rw [if_pos ⟨by omega,Int.le_refl _,by omega⟩]
 refine zb6_ (L:=fun n i q=>z8j_ k n a i q fun q_5=>some q_5) (e:=fun q=>some q) a _ (by simp) ?_ ?_ (n:=k) (by have:=zj_; omega)
 ·intro n i x q hx hlt hq
  have hw:=zi_ (i:=i) (by omega)
  have hi:i<q.length:=by omega
  have hm:=z5g_ zf_ (List.mem_of_getElem? hx)
  have hb:zf_ x≤10000000000:=by unfold z1y_ at h; omega
  simp [z8j_,z6e_ hk hb,hlt,hx,hw,hi]
 ·intro n q
  simp [z8j_]
theorem zvt_ {k:Nat} (hk:KK≤k) {a:List (List Int)} (h:z2o_ a≤10000000000):zdq_ k a=some a:=by
 have b0:(z1y_ a)≤10000000000:=by unfold z2o_ at h; omega
 unfold zdq_
 simp only [zvs_ hk b0,Option.bind_some] <;> rfl
theorem zvu_ {k:Nat} (hk:KK≤k) {a:Int×Int×Int×List Int} (h:z1i_ a≤10000000000):zdr_ k a=some a:=by
 have b3:(zf_ (a.2.2.2))≤10000000000:=by unfold z1i_ at h; omega
 unfold zdr_
 simp only [z6e_ hk b3,Option.bind_some] <;> rfl
theorem zvv_ {k:Nat} (hk:KK≤k) {a:List (Int×Int×Int×List Int)} (h:z1z_ a≤10000000000):zds_ k a=some a:=by
 have hl:a.length≤10000000000:=Nat.le_trans (show a.length≤z1z_ a by unfold z1z_; omega) h
 unfold zds_
 have hL:=z2b_
 rw [if_pos ⟨by omega,Int.le_refl _,by omega⟩]
 refine zb6_ (L:=fun n i q=>z8k_ k n a i q fun q_5=>some q_5) (e:=fun q=>some q) a _ (by simp) ?_ ?_ (n:=k) (by have:=zj_; omega)
 ·intro n i x q hx hlt hq
  have hw:=zi_ (i:=i) (by omega)
  have hi:i<q.length:=by omega
  have hm:=z5g_ z1i_ (List.mem_of_getElem? hx)
  have hb:z1i_ x≤10000000000:=by unfold z1z_ at h; omega
  simp [z8k_,zvu_ hk hb,hlt,hx,hw,hi]
 ·intro n q
  simp [z8k_]
theorem zvw_ {k:Nat} (hk:KK≤k) {a:List (List Int)×Int×List Int×(List (Int×Int×Int×List Int))} (h:zt_ a≤10000000000):zdt_ k a=some a:=by
 have b0:(z2o_ (a.1))≤10000000000:=by unfold zt_ at h; omega
 have b2:(zf_ (a.2.2.1))≤10000000000:=by unfold zt_ at h; omega
 have b3:(z1z_ (a.2.2.2))≤10000000000:=by unfold zt_ at h; omega
 unfold zdt_
 simp only [zvt_ hk b0,z6e_ hk b2,zvv_ hk b3,Option.bind_some] <;> rfl
theorem zvx_ {a:Int×Int×Int} :zdu_ a=some a:=by
 unfold zdu_
 rfl
theorem zvy_ {k:Nat} (hk:KK≤k) {a:List (Int×Int×Int)} (h:z32_ a≤10000000000):zdv_ k a=some a:=by
 have hl:a.length≤10000000000:=Nat.le_trans (show a.length≤z32_ a by unfold z32_; omega) h
 unfold zdv_
 have hL:=z2b_
 rw [if_pos ⟨by omega,Int.le_refl _,by omega⟩]
 refine zb6_ (L:=fun n i q=>z8l_ k n a i q fun q_5=>some q_5) (e:=fun q=>some q) a _ (by simp) ?_ ?_ (n:=k) (by have:=zj_; omega)
 ·intro n i x q hx hlt hq
  have hw:=zi_ (i:=i) (by omega)
  have hi:i<q.length:=by omega
  simp [z8l_,zvx_,hlt,hx,hw,hi]
 ·intro n q
  simp [z8l_]
theorem zvz_ {k:Nat} (hk:KK≤k) {a:Int×Int×Int×(List (Int×Int×Int))} (h:z1t_ a≤10000000000):zdw_ k a=some a:=by
 have b3:(z32_ (a.2.2.2))≤10000000000:=by unfold z1t_ at h; omega
 unfold zdw_
 simp only [zvy_ hk b3,Option.bind_some] <;> rfl
theorem zw0_ {a:Int×Int×Int} :zdx_ a=some a:=by
 unfold zdx_
 rfl
theorem zw1_ {k:Nat} (hk:KK≤k) {a:List (Int×Int×Int)} (h:z33_ a≤10000000000):zdy_ k a=some a:=by
 have hl:a.length≤10000000000:=Nat.le_trans (show a.length≤z33_ a by unfold z33_; omega) h
 unfold zdy_
 have hL:=z2b_
 rw [if_pos ⟨by omega,Int.le_refl _,by omega⟩]
 refine zb6_ (L:=fun n i q=>z8m_ k n a i q fun q_5=>some q_5) (e:=fun q=>some q) a _ (by simp) ?_ ?_ (n:=k) (by have:=zj_; omega)
 ·intro n i x q hx hlt hq
  have hw:=zi_ (i:=i) (by omega)
  have hi:i<q.length:=by omega
  simp [z8m_,zw0_,hlt,hx,hw,hi]
 ·intro n q
  simp [z8m_]
theorem zw2_ {k:Nat} (hk:KK≤k) {a:Int×Int×(List (Int×Int×Int))} (h:z34_ a≤10000000000):zdz_ k a=some a:=by
 have b2:(z33_ (a.2.2))≤10000000000:=by unfold z34_ at h; omega
 unfold zdz_
 simp only [zw1_ hk b2,Option.bind_some] <;> rfl
theorem zw3_ {k:Nat} (hk:KK≤k) {a:(List (List Int)×Int×List Int×(List (Int×Int×Int×List Int)))×Int×List Int×List Int×(Int×Int×Int×(List (Int×Int×Int)))×List Int×List Int×(Int×Int×(List (Int×Int×Int)))×List Int} (h:z15_ a≤10000000000):z71_ k a=some a:=by
 have b0:(zt_ (a.1))≤10000000000:=by unfold z15_ at h; omega
 have b2:(zf_ (a.2.2.1))≤10000000000:=by unfold z15_ at h; omega
 have b3:(zf_ (a.2.2.2.1))≤10000000000:=by unfold z15_ at h; omega
 have b4:(z1t_ (a.2.2.2.2.1))≤10000000000:=by unfold z15_ at h; omega
 have b5:(zf_ (a.2.2.2.2.2.1))≤10000000000:=by unfold z15_ at h; omega
 have b6:(zf_ (a.2.2.2.2.2.2.1))≤10000000000:=by unfold z15_ at h; omega
 have b7:(z34_ (a.2.2.2.2.2.2.2.1))≤10000000000:=by unfold z15_ at h; omega
 have b8:(zf_ (a.2.2.2.2.2.2.2.2))≤10000000000:=by unfold z15_ at h; omega
 unfold z71_
 simp only [zvw_ hk b0,z6e_ hk b2,z6e_ hk b3,zvz_ hk b4,z6e_ hk b5,z6e_ hk b6,zw2_ hk b7,z6e_ hk b8,Option.bind_some] <;> rfl
theorem z6f_ {k:Nat} (hk:KK≤k) {a b:List Int} (h:zf_ a≤10000000000):z42_ k a b=some (decide (a=b)):=by
 have hle:a.length≤10000000000:=Nat.le_trans (show a.length≤zf_ a by unfold zf_; omega) h
 unfold z42_
 by_cases hl:a.length=b.length
 ·rw [if_neg (by simp [hl])]
  refine z6w_ (L:=fun n i=>z8w_ k n a b i (some true)) a b hl ?_ ?_ (n:=k) (by have:=zj_; omega)
  ·intro n i x y hx hy hlt
   have hw:=zi_ (i:=i) (by omega)
   by_cases e:x=y <;> simp [z8w_,hlt,hx,hy,hw,e]
  ·intro n
   simp [z8w_]
 ·have h2:a≠b:=fun e=>hl (by rw [e])
  have h3:¬ (a.length:Int)=b.length:=by omega
  simp [h3,h2]
theorem zw4_ {k:Nat} (hk:KK≤k) {a b:List (List Int)} (h:z1y_ a≤10000000000):zef_ k a b=some (decide (a=b)):=by
 have hle:a.length≤10000000000:=Nat.le_trans (show a.length≤z1y_ a by unfold z1y_; omega) h
 unfold zef_
 by_cases hl:a.length=b.length
 ·rw [if_neg (by simp [hl])]
  refine z6w_ (L:=fun n i=>z8x_ k n a b i (some true)) a b hl ?_ ?_ (n:=k) (by have:=zj_; omega)
  ·intro n i x y hx hy hlt
   have hw:=zi_ (i:=i) (by omega)
   have hm:=z5g_ zf_ (List.mem_of_getElem? hx)
   have hb:zf_ x≤10000000000:=by unfold z1y_ at h; omega
   simp only [z8x_,hlt,decide_true,if_true,Int.natCast_nonneg,Int.toNat_natCast,hx,hy,Option.bind_some,hw,z6f_ hk hb]
   by_cases e:x=y
   ·rw [decide_eq_true e,if_pos e]; simp
   ·rw [decide_eq_false e,if_neg e]; simp
  ·intro n
   simp [z8x_]
 ·have h2:a≠b:=fun e=>hl (by rw [e])
  have h3:¬ (a.length:Int)=b.length:=by omega
  simp [h3,h2]
theorem zw5_ {k:Nat} (hk:KK≤k) {a b:List (List Int)} (h:z2o_ a≤10000000000):zeg_ k a b=some (decide (a=b)):=by
 have c0:(z1y_ a)≤10000000000:=by unfold z2o_ at h; omega
 unfold zeg_
 simp only [zw4_ hk c0,Option.bind_some,Prod.mk.injEq]
 by_cases x0:a=b
 case neg=>simp [x0]
 subst x0
 simp
theorem zw6_ {k:Nat} (hk:KK≤k) {a b:Int×Int×Int×List Int} (h:z1i_ a≤10000000000):zeh_ k a b=some (decide (a=b)):=by
 obtain ⟨a0,a1,a2,a3⟩:=a
 obtain ⟨b0,b1,b2,b3⟩:=b
 have c3:(zf_ a3)≤10000000000:=by unfold z1i_ at h; simp only at h; omega
 unfold zeh_
 simp only [z6f_ hk c3,Option.bind_some,Prod.mk.injEq]
 by_cases x0:a0=b0
 case neg=>simp [x0]
 subst x0
 by_cases x1:a1=b1
 case neg=>simp [x1]
 subst x1
 by_cases x2:a2=b2
 case neg=>simp [x2]
 subst x2
 by_cases x3:a3=b3
 case neg=>simp [x3]
 subst x3
 simp
theorem zw7_ {k:Nat} (hk:KK≤k) {a b:List (Int×Int×Int×List Int)} (h:z1z_ a≤10000000000):zei_ k a b=some (decide (a=b)):=by
 have hle:a.length≤10000000000:=Nat.le_trans (show a.length≤z1z_ a by unfold z1z_; omega) h
 unfold zei_
 by_cases hl:a.length=b.length
 ·rw [if_neg (by simp [hl])]
  refine z6w_ (L:=fun n i=>z8y_ k n a b i (some true)) a b hl ?_ ?_ (n:=k) (by have:=zj_; omega)
  ·intro n i x y hx hy hlt
   have hw:=zi_ (i:=i) (by omega)
   have hm:=z5g_ z1i_ (List.mem_of_getElem? hx)
   have hb:z1i_ x≤10000000000:=by unfold z1z_ at h; omega
   simp only [z8y_,hlt,decide_true,if_true,Int.natCast_nonneg,Int.toNat_natCast,hx,hy,Option.bind_some,hw,zw6_ hk hb]
   by_cases e:x=y
   ·rw [decide_eq_true e,if_pos e]; simp
   ·rw [decide_eq_false e,if_neg e]; simp
  ·intro n
   simp [z8y_]
 ·have h2:a≠b:=fun e=>hl (by rw [e])
  have h3:¬ (a.length:Int)=b.length:=by omega
  simp [h3,h2]
theorem zw8_ {k:Nat} (hk:KK≤k) {a b:List (List Int)×Int×List Int×(List (Int×Int×Int×List Int))} (h:zt_ a≤10000000000):zej_ k a b=some (decide (a=b)):=by
 obtain ⟨a0,a1,a2,a3⟩:=a
 obtain ⟨b0,b1,b2,b3⟩:=b
 have c0:(z2o_ a0)≤10000000000:=by unfold zt_ at h; simp only at h; omega
 have c2:(zf_ a2)≤10000000000:=by unfold zt_ at h; simp only at h; omega
 have c3:(z1z_ a3)≤10000000000:=by unfold zt_ at h; simp only at h; omega
 unfold zej_
 simp only [zw5_ hk c0,z6f_ hk c2,zw7_ hk c3,Option.bind_some,Prod.mk.injEq]
 by_cases x0:a0=b0
 case neg=>simp [x0]
 subst x0
 by_cases x1:a1=b1
 case neg=>simp [x1]
 subst x1
 by_cases x2:a2=b2
 case neg=>simp [x2]
 subst x2
 by_cases x3:a3=b3
 case neg=>simp [x3]
 subst x3
 simp
theorem zw9_ {a b:Int×Int×Int} :zek_ a b=some (decide (a=b)):=by
 obtain ⟨a0,a1,a2⟩:=a
 obtain ⟨b0,b1,b2⟩:=b
 unfold zek_
 simp only [Prod.mk.injEq]
 by_cases x0:a0=b0
 case neg=>simp [x0]
 subst x0
 by_cases x1:a1=b1
 case neg=>simp [x1]
 subst x1
 by_cases x2:a2=b2
 case neg=>simp [x2]
 subst x2
 simp
theorem zwa_ {k:Nat} (hk:KK≤k) {a b:List (Int×Int×Int)} (h:z32_ a≤10000000000):zel_ k a b=some (decide (a=b)):=by
 have hle:a.length≤10000000000:=Nat.le_trans (show a.length≤z32_ a by unfold z32_; omega) h
 unfold zel_
 by_cases hl:a.length=b.length
 ·rw [if_neg (by simp [hl])]
  refine z6w_ (L:=fun n i=>z8z_ k n a b i (some true)) a b hl ?_ ?_ (n:=k) (by have:=zj_; omega)
  ·intro n i x y hx hy hlt
   have hw:=zi_ (i:=i) (by omega)
   simp only [z8z_,hlt,decide_true,if_true,Int.natCast_nonneg,Int.toNat_natCast,hx,hy,Option.bind_some,hw,zw9_]
   by_cases e:x=y
   ·rw [decide_eq_true e,if_pos e]; simp
   ·rw [decide_eq_false e,if_neg e]; simp
  ·intro n
   simp [z8z_]
 ·have h2:a≠b:=fun e=>hl (by rw [e])
  have h3:¬ (a.length:Int)=b.length:=by omega
  simp [h3,h2]
theorem zwb_ {k:Nat} (hk:KK≤k) {a b:Int×Int×Int×(List (Int×Int×Int))} (h:z1t_ a≤10000000000):zem_ k a b=some (decide (a=b)):=by
 obtain ⟨a0,a1,a2,a3⟩:=a
 obtain ⟨b0,b1,b2,b3⟩:=b
 have c3:(z32_ a3)≤10000000000:=by unfold z1t_ at h; simp only at h; omega
 unfold zem_
 simp only [zwa_ hk c3,Option.bind_some,Prod.mk.injEq]
 by_cases x0:a0=b0
 case neg=>simp [x0]
 subst x0
 by_cases x1:a1=b1
 case neg=>simp [x1]
 subst x1
 by_cases x2:a2=b2
 case neg=>simp [x2]
 subst x2
 by_cases x3:a3=b3
 case neg=>simp [x3]
 subst x3
 simp
theorem zwc_ {a b:Int×Int×Int} :zen_ a b=some (decide (a=b)):=by
 obtain ⟨a0,a1,a2⟩:=a
 obtain ⟨b0,b1,b2⟩:=b
 unfold zen_
 simp only [Prod.mk.injEq]
 by_cases x0:a0=b0
 case neg=>simp [x0]
 subst x0
 by_cases x1:a1=b1
 case neg=>simp [x1]
 subst x1
 by_cases x2:a2=b2
 case neg=>simp [x2]
 subst x2
 simp
theorem zwd_ {k:Nat} (hk:KK≤k) {a b:List (Int×Int×Int)} (h:z33_ a≤10000000000):zeo_ k a b=some (decide (a=b)):=by
 have hle:a.length≤10000000000:=Nat.le_trans (show a.length≤z33_ a by unfold z33_; omega) h
 unfold zeo_
 by_cases hl:a.length=b.length
 ·rw [if_neg (by simp [hl])]
  refine z6w_ (L:=fun n i=>z90_ k n a b i (some true)) a b hl ?_ ?_ (n:=k) (by have:=zj_; omega)
  ·intro n i x y hx hy hlt
   have hw:=zi_ (i:=i) (by omega)
   simp only [z90_,hlt,decide_true,if_true,Int.natCast_nonneg,Int.toNat_natCast,hx,hy,Option.bind_some,hw,zwc_]
   by_cases e:x=y
   ·rw [decide_eq_true e,if_pos e]; simp
   ·rw [decide_eq_false e,if_neg e]; simp
  ·intro n
   simp [z90_]
 ·have h2:a≠b:=fun e=>hl (by rw [e])
  have h3:¬ (a.length:Int)=b.length:=by omega
  simp [h3,h2]
theorem zwe_ {k:Nat} (hk:KK≤k) {a b:Int×Int×(List (Int×Int×Int))} (h:z34_ a≤10000000000):zep_ k a b=some (decide (a=b)):=by
 obtain ⟨a0,a1,a2⟩:=a
 obtain ⟨b0,b1,b2⟩:=b
 have c2:(z33_ a2)≤10000000000:=by unfold z34_ at h; simp only at h; omega
 unfold zep_
 simp only [zwd_ hk c2,Option.bind_some,Prod.mk.injEq]
 by_cases x0:a0=b0
 case neg=>simp [x0]
 subst x0
 by_cases x1:a1=b1
 case neg=>simp [x1]
 subst x1
 by_cases x2:a2=b2
 case neg=>simp [x2]
 subst x2
 simp
theorem zwf_ {k:Nat} (hk:KK≤k) {a b:(List (List Int)×Int×List Int×(List (Int×Int×Int×List Int)))×Int×List Int×List Int×(Int×Int×Int×(List (Int×Int×Int)))×List Int×List Int×(Int×Int×(List (Int×Int×Int)))×List Int} (h:z15_ a≤10000000000):zeq_ k a b=some (decide (a=b)):=by
 obtain ⟨a0,a1,a2,a3,a4,a5,a6,a7,a8⟩:=a
 obtain ⟨b0,b1,b2,b3,b4,b5,b6,b7,b8⟩:=b
 have c0:(zt_ a0)≤10000000000:=by unfold z15_ at h; simp only at h; omega
 have c2:(zf_ a2)≤10000000000:=by unfold z15_ at h; simp only at h; omega
 have c3:(zf_ a3)≤10000000000:=by unfold z15_ at h; simp only at h; omega
 have c4:(z1t_ a4)≤10000000000:=by unfold z15_ at h; simp only at h; omega
 have c5:(zf_ a5)≤10000000000:=by unfold z15_ at h; simp only at h; omega
 have c6:(zf_ a6)≤10000000000:=by unfold z15_ at h; simp only at h; omega
 have c7:(z34_ a7)≤10000000000:=by unfold z15_ at h; simp only at h; omega
 have c8:(zf_ a8)≤10000000000:=by unfold z15_ at h; simp only at h; omega
 unfold zeq_
 simp only [zw8_ hk c0,z6f_ hk c2,z6f_ hk c3,zwb_ hk c4,z6f_ hk c5,z6f_ hk c6,zwe_ hk c7,z6f_ hk c8,Option.bind_some,Prod.mk.injEq]
 by_cases x0:a0=b0
 case neg=>simp [x0]
 subst x0
 by_cases x1:a1=b1
 case neg=>simp [x1]
 subst x1
 by_cases x2:a2=b2
 case neg=>simp [x2]
 subst x2
 by_cases x3:a3=b3
 case neg=>simp [x3]
 subst x3
 by_cases x4:a4=b4
 case neg=>simp [x4]
 subst x4
 by_cases x5:a5=b5
 case neg=>simp [x5]
 subst x5
 by_cases x6:a6=b6
 case neg=>simp [x6]
 subst x6
 by_cases x7:a7=b7
 case neg=>simp [x7]
 subst x7
 by_cases x8:a8=b8
 case neg=>simp [x8]
 subst x8
 simp
theorem zwg_ (x:(List (List Int)×Int×List Int×(List (Int×Int×Int×List Int)))×Int×List Int×List Int×(Int×Int×Int×(List (Int×Int×Int)))×List Int×List Int×(Int×Int×(List (Int×Int×Int)))×List Int):((x.1.1,(x.1.2.1,(x.1.2.2.1,x.1.2.2.2))),(x.2.1,(x.2.2.1,(x.2.2.2.1,((x.2.2.2.2.1.1,(x.2.2.2.2.1.2.1,(x.2.2.2.2.1.2.2.1,x.2.2.2.2.1.2.2.2))),(x.2.2.2.2.2.1,(x.2.2.2.2.2.2.1,((x.2.2.2.2.2.2.2.1.1,(x.2.2.2.2.2.2.2.1.2.1,x.2.2.2.2.2.2.2.1.2.2)),x.2.2.2.2.2.2.2.2))))))))=x:=rfl
theorem zwh_ {a b:Int×List UInt8×List UInt8} (h:z7n_ a≤10000000000):zee_ a b=some (decide (a=b)):=by
 obtain ⟨a0,a1,a2⟩:=a
 obtain ⟨b0,b1,b2⟩:=b
 unfold zee_
 simp only [Prod.mk.injEq]
 by_cases x0:a0=b0
 case neg=>simp [x0]
 subst x0
 by_cases x1:a1=b1
 case neg=>simp [x1]
 subst x1
 by_cases x2:a2=b2
 case neg=>simp [x2]
 subst x2
 simp
theorem zwi_ {k:Nat} (hk:KK≤k) {a b:List (Int×List UInt8×List UInt8)} (h:z6c_ a≤10000000000):z6z_ k a b=some (decide (a=b)):=by
 have hle:a.length≤10000000000:=Nat.le_trans (show a.length≤z6c_ a by unfold z6c_; omega) h
 unfold z6z_
 by_cases hl:a.length=b.length
 ·rw [if_neg (by simp [hl])]
  refine z6w_ (L:=fun n i=>z8v_ k n a b i (some true)) a b hl ?_ ?_ (n:=k) (by have:=zj_; omega)
  ·intro n i x y hx hy hlt
   have hw:=zi_ (i:=i) (by omega)
   have hm:=z5g_ z7n_ (List.mem_of_getElem? hx)
   have hb:z7n_ x≤10000000000:=by unfold z6c_ at h; omega
   simp only [z8v_,hlt,decide_true,if_true,Int.natCast_nonneg,Int.toNat_natCast,hx,hy,Option.bind_some,hw,zwh_ hb]
   by_cases e:x=y
   ·rw [decide_eq_true e,if_pos e]; simp
   ·rw [decide_eq_false e,if_neg e]; simp
  ·intro n
   simp [z8v_]
 ·have h2:a≠b:=fun e=>hl (by rw [e])
  have h3:¬ (a.length:Int)=b.length:=by omega
  simp [h3,h2]
theorem zg9_ {k:Nat} {w:Wrk} (h:z47_ k w=true):sheB k w.1=true∧(0≤w.2.1∧w.2.1≤3)∧colB w.2.2.1 (zv_ w.1.2.2.1 (ofC w.1.1 w.2.1)) w.1.2.1=true∧colB w.2.2.2.1 (zv_ w.1.2.2.1 (ofC w.1.1 0)) w.1.2.1=true∧netB w.2.2.2.2.1=true∧z1x_ w.2.2.2.2.2.2.2.1=true∧colB w.2.2.2.2.2.2.2.2 w.2.2.2.2.2.2.2.1.1 w.2.2.2.2.2.2.2.1.2.1=true:=by
 unfold z47_ at h
 simp only [Bool.and_eq_true,decide_eq_true_eq] at h
 exact ⟨h.1,h.2.1,h.2.2.1,h.2.2.2.1,h.2.2.2.2.1,h.2.2.2.2.2.1,h.2.2.2.2.2.2⟩
theorem zwj_ {k:Nat} (hk:KK≤k) {a:Wrk} (h:z15_ a≤1048576):∃ y,zbb_ k a.1.2.1 a.2.1 a.2.2.2.2.1.1 a.2.2.2.2.1.2.1 a.2.2.2.2.1.2.2.1 a.2.2.2.2.2.2.2.1.1 a.2.2.2.2.2.2.2.1.2.1 1 a.1.1 a.1.2.2.1 a.1.2.2.2 a.2.2.1 a.2.2.2.1 a.2.2.2.2.1.2.2.2 a.2.2.2.2.2.1 a.2.2.2.2.2.2.1 a.2.2.2.2.2.2.2.1.2.2 a.2.2.2.2.2.2.2.2=some y∧¬ y.1.1<0:=by
 have e:z15_ a=zt_ a.1+a.2.2.1.length+a.2.2.2.1.length+a.2.2.2.2.1.2.2.2.length+a.2.2.2.2.2.1.length+a.2.2.2.2.2.2.1.length+a.2.2.2.2.2.2.2.1.2.2.length+a.2.2.2.2.2.2.2.2.length:=rfl
 have e2:zt_ a.1=z1y_ a.1.1+a.1.2.2.1.length+z1z_ a.1.2.2.2:=rfl
 exact zvr_ hk _ _ _ _ _ _ _ (by omega) (by omega) (by omega) (by omega) (by omega) (by omega) (by omega) (by omega) (by omega) (by omega)
theorem zwk_ {k:Nat} (hk:KK≤k) {w:Wrk} (hs:smallW w):zey_ k w=some (if z47_ k w=true then (z31_ w.2.2.2.2.2.2.2.1 w.2.2.2.2.2.2.2.2,0) else ([],1)):=by
 unfold zey_ zj9_
 rw [zv4_ hk hs]
 cases h:z47_ k w
 ·simp
 ·have hn:=(zg9_ h).2.2.2.2.2
  simp [zv1_ hk hn.1 hn.2]
theorem zwl_ {k:Nat} (hk:KK≤k) {w:Wrk} (hs:smallW w):zba_ k w=some (if z47_ k w=true then (z31_ w.2.2.2.2.2.2.2.1 w.2.2.2.2.2.2.2.2,0) else ([],1)):=by
 have hK:=zj_
 obtain ⟨j,rfl⟩:∃ j,k=j+2:=⟨k-2,by omega⟩
 unfold zba_ zi6_
 rw [zv5_ hk hs]
 cases h:z47_ (j+2) w
 ·simp
 ·have hn:=(zg9_ h).2.2.2.2.2
  have hl:=zk4_ hn.1 w.2.2.2.2.2.2.2.2
  have hL:(([]:List Prb).length+(z31_ w.2.2.2.2.2.2.2.1 w.2.2.2.2.2.2.2.2).length)*40≤LIM:=by unfold LIM; simp only [List.length_nil]; omega
  have c1:((1:Nat):Int)=1:=rfl
  have w1:z0_ (0+1)=1:=w_id (by omega) (by omega)
  simp only [Option.bind_some,Bool.not_true,Bool.false_eq_true,if_false,if_true,zed_,List.length_cons,List.length_nil,Nat.zero_add,c1,Int.toNat_zero,Int.zero_lt_one,decide_true,Int.le_refl,List.getElem?_cons_zero,zv2_ hk hn.1 hn.2,hL,w1,Int.lt_irrefl,decide_false,List.nil_append]
  rw [if_pos (by unfold LIM; omega)]
  rfl
theorem zwm_ {e0 e1 e2 e3 e4 e5 e6 e7 e8 e9 e10 e11:TypeId} (a0:Wrk) (f0:InR (.st (.pr (.st (.pr (.st (.sl e0 (.sl e1 (.int .i64)))) (.pr (.int .i64) (.pr (.sl e2 (.int .i64)) (.sl e3 (.st (.pr (.int .i64) (.pr (.int .i64) (.pr (.int .i64) (.sl e4 (.int .i64))))))))))) (.pr (.int .i64) (.pr (.sl e5 (.int .i64)) (.pr (.sl e6 (.int .i64)) (.pr (.st (.pr (.int .i64) (.pr (.int .i64) (.pr (.int .i64) (.sl e7 (.st (.pr (.int .i64) (.pr (.int .i64) (.int .i64))))))))) (.pr (.sl e8 (.int .i64)) (.pr (.sl e9 (.int .i64)) (.pr (.st (.pr (.int .i64) (.pr (.int .i64) (.sl e10 (.st (.pr (.int .i64) (.pr (.int .i64) (.int .i64)))))))) (.sl e11 (.int .i64))))))))))) a0):∃ k:Nat,zex_ k a0=some true:=by
 have hk:=Nat.le_refl KK
 refine ⟨KK,?_⟩
 have q0:=zvg_ hk (a:=a0) (left:=1048576) (by omega) (by omega) f0
 unfold zex_
 rw [q0]
 by_cases c0:(z15_ a0:Int)≤1048576
 case neg=>rw [if_neg c0]; simp only [Option.bind_some]; rw [decide_eq_true (by omega),if_pos rfl]
 rw [if_pos c0]; simp only [Option.bind_some]
 rw [decide_eq_false (by omega),if_neg (by simp)]
 have b0:z15_ a0≤10000000000:=by omega
 have hs:=zvh_ (w:=a0) (by omega)
 have e:z15_ a0=zt_ a0.1+a0.2.2.1.length+a0.2.2.2.1.length+a0.2.2.2.2.1.2.2.2.length+a0.2.2.2.2.2.1.length+a0.2.2.2.2.2.2.1.length+a0.2.2.2.2.2.2.2.1.2.2.length+a0.2.2.2.2.2.2.2.2.length:=rfl
 have h1:=zwk_ hk hs
 have h2:=zwl_ hk hs
 obtain ⟨y,hy,hy0⟩:=zwj_ hk (a:=a0) (by omega)
 obtain ⟨r,hr⟩:∃ r:List Prb×Int,r=if z47_ KK a0=true then (z31_ a0.2.2.2.2.2.2.2.1 a0.2.2.2.2.2.2.2.2,0) else ([],1):=⟨_,rfl⟩
 rw [← hr] at h1 h2
 have hl:r.1.length≤24:=by
  rw [hr]
  split
  ·rename_i hb
   exact zk4_ (zg9_ hb).2.2.2.2.2.1 _
  ·simp
 have hz:z6c_ r.1≤100000:=by
  rw [hr]
  split
  ·rename_i hb
   exact zv3_ (zg9_ hb).2.2.2.2.2.1 _
  ·simp [z6c_,sumL]
 obtain ⟨m,q,hm,hq,hm0⟩:=zuw_ hk (L:=r.1) (by omega)
 have heq:z6z_ KK r.1 r.1=some true:=(zwi_ hk (a:=r.1) (b:=r.1) (by omega)).trans (congrArg some (decide_eq_true rfl))
 simp only [zw3_ hk b0,Option.bind_some,zwg_,h1,h2,heq,zwf_ hk b0,hy,hy0,hm,hq,hm0,decide_true,decide_false,Bool.not_true,Bool.false_eq_true,if_false]
end Go.Proofs.YtbfbojmkmjhdcaaGreatDoor.Ev
