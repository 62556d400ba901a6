/- Plain laws of the printed functions. No conditions but those in each statement. -/
import Derived.Test.YthbodbmcalfmaaaGreatDoorEv5
import Derived.Test.YthbodbmcalfmaaaGreatDoorG13
set_option linter.unusedVariables false
set_option linter.unusedSimpArgs false
namespace Go.Proofs.YthbodbmcalfmaaaGreatDoor.Ev
open Go.RowKit
theorem z46_ (n a b:Int):z2a_ n a b=some (decide (a≤n∧n≤b)):=by
 unfold z2a_
 by_cases h:a≤n <;> simp [h]
theorem z47_ (n a b:Int):z1o_ n a b=some (decide (a≤n∧n≤b)):=by
 unfold z1o_
 by_cases h:a≤n <;> simp [h]
def cI (x y:Int):Int:=if x<y then -1 else if y<x then 1 else 0
theorem zjk_ (x y:Int):z67_ x y=some (cI x y):=by
 unfold z67_ zft_ cI
 by_cases h1:x<y
 ·simp [h1]
 ·by_cases h2:y<x <;> simp [h1,h2]
theorem zti_ (x y:Int):zfs_ x y=some (cI x y):=by
 unfold zfs_ zfr_ cI
 by_cases h1:x<y
 ·simp [h1]
 ·by_cases h2:y<x <;> simp [h1,h2]
theorem zjl_ {k:Nat} (hk:KK≤k) (a b:Int):zbc_ k [a,b]=some (if a=0 then b else a):=by
 have hK:=zj_
 obtain ⟨m,rfl⟩:∃ m,k=m+3:=⟨k-3,by omega⟩
 generalize hf:m+3=k
 have hw0:z0_ 1=1:=w_id (by omega) (by omega)
 have hw1:z0_ 2=2:=w_id (by omega) (by omega)
 show z7j_ k k 0 [a,b] 2 0 (fun zero_2=>some zero_2)=_
 conv=>lhs; arg 2; rw [← hf]
 by_cases h:a=0
 ·by_cases h':b=0
  ·subst h; subst h'; simp [z7j_,hw0,hw1]
  ·subst h; simp [z7j_,hw0,hw1,h']
 ·simp [z7j_,h]
abbrev Edg:=Int×Int×Int
def z7p_ (a b:Edg):Bool:=decide (a.1<b.1∨(a.1=b.1∧a.2.1<b.2.1))
def za7_ (l:List Edg) (i:Nat) (e:Edg):Bool:=if 0<i then (match l[i-1]? with | some z=>z7p_ z e | none=>false) else true
theorem zns_ (a b:Edg):decide (0≤(if cI a.1 b.1=0 then cI a.2.1 b.2.1 else cI a.1 b.1))=!z7p_ a b:=by
 unfold z7p_ cI
 rw [← decide_not]
 refine decide_eq_decide.2 ?_
 by_cases h1:a.1<b.1
 ·simp [h1]
 ·by_cases h2:b.1<a.1
  ·have:¬ a.1=b.1:=by omega
   simp [h1,h2,this]
  ·have e:a.1=b.1:=by omega
   by_cases h3:a.2.1<b.2.1
   ·simp [e,h3]
   ·by_cases h4:b.2.1<a.2.1 <;> simp [e,h3,h4]
abbrev Net:=Int×Int×Int×List Edg
def arcB (n:Net) (i:Nat):Bool:=match n.2.2.2[i]? with
 | some a=>decide (0≤a.1∧a.1≤z0_ (n.1-1))&&(decide (0≤a.2.1∧a.2.1≤z0_ (n.1-1))&&(!decide (a.1=a.2.1)&&(decide (0≤a.2.2∧a.2.2≤1000000)&&za7_ n.2.2.2 i a)))
 | none=>false
def netB (n:Net):Bool:=decide (2≤n.1∧n.1≤12)&&(decide (0≤n.2.1∧n.2.1≤z0_ (n.1-1))&&(decide (0≤n.2.2.1∧n.2.2.1≤z0_ (n.1-1))&&(!decide (n.2.1=n.2.2.1)&&((List.range n.2.2.2.length).all (arcB n)&&decide (n.2.2.2.length≤24)))))
theorem ztj_ {k:Nat} (hk:KK≤k) {n:Net} (hn:n.2.2.2.length≤1048576):zfb_ k n=some (netB n):=by
 have hK:=zj_
 have hl:z5f_ k k n 0 (fun n_11=>some (decide ((List.length n_11.2.2.2:Int)≤24)))=if (List.range n.2.2.2.length).all (arcB n)=true then some (decide ((n.2.2.2.length:Int)≤24)) else some false:=by
  refine z2l_ (L:=fun m i=>z5f_ k m n i (fun n_11=>some (decide ((List.length n_11.2.2.2:Int)≤24)))) (b:=n.2.2.2.length) (p:=arcB n) (r:=some false) ?_ ?_ (n:=k) (by omega)
  ·intro m i hi
   have hlt:(i:Int)<(n.2.2.2.length:Int):=by omega
   have hw:=zi_ (i:=i) (by omega)
   have hg:n.2.2.2[i]?=some n.2.2.2[i]:=List.getElem?_eq_getElem hi
   simp only [z5f_,hlt,decide_true,if_true,Int.natCast_nonneg,Int.toNat_natCast,hg,Option.bind_some,hw,z47_,arcB,za7_]
   generalize n.2.2.2[i]=a
   by_cases c1:0≤a.1∧a.1≤z0_ (n.1-1)
   case neg=>simp [c1]
   by_cases c2:0≤a.2.1∧a.2.1≤z0_ (n.1-1)
   case neg=>simp [c1,c2]
   by_cases c3:a.1=a.2.1
   ·simp only [c3,decide_true] at *; simp [c2]
   by_cases c4:0≤a.2.2∧a.2.2≤1000000
   case neg=>simp [c1,c2,c3,c4]
   rw [decide_eq_true c1,decide_eq_true c2,decide_eq_false c3,decide_eq_true c4]
   simp only [Bool.not_true,Bool.not_false,Bool.false_eq_true,if_false,Bool.true_and]
   by_cases h0:0<i
   ·have h0':(0:Int)<(i:Int):=by omega
    have hw1:z0_ ((i:Int)-1)=((i-1:Nat):Int):=by rw [w_id (by omega) (by omega)]; omega
    have hg1:n.2.2.2[i-1]?=some n.2.2.2[i-1]:=List.getElem?_eq_getElem (by omega)
    simp only [h0',h0,decide_true,if_true,hw1,Int.natCast_nonneg,Int.toNat_natCast,hg1,Option.bind_some]
    generalize n.2.2.2[i-1]=t
    unfold z7p_
    by_cases d1:a.1<t.1
    ·have:¬ (t.1<a.1∨t.1=a.1∧t.2.1<a.2.1):=by omega
     rw [decide_eq_true d1,if_pos rfl,decide_eq_false this,if_neg (by simp)]
    ·rw [decide_eq_false d1,if_neg (by simp)]
     by_cases d2:t.1=a.1
     ·rw [decide_eq_true d2,if_pos rfl]
      by_cases d3:a.2.1≤t.2.1
      ·have:¬ (t.1<a.1∨t.1=a.1∧t.2.1<a.2.1):=by omega
       rw [decide_eq_true d3,if_pos rfl,decide_eq_false this,if_neg (by simp)]
      ·have:(t.1<a.1∨t.1=a.1∧t.2.1<a.2.1):=by omega
       rw [decide_eq_false d3,if_neg (by simp),decide_eq_true this,if_pos rfl]
     ·have:(t.1<a.1∨t.1=a.1∧t.2.1<a.2.1):=by omega
      rw [decide_eq_false d2,if_neg (by simp),decide_eq_true this,if_pos rfl]
   ·have h0':¬ (0:Int)<(i:Int):=by omega
    simp [h0,h0']
  ·intro m
   simp only [z5f_,Int.lt_irrefl,decide_false,Bool.false_eq_true,if_false]
 have e2:decide ((n.2.2.2.length:Int)≤24)=decide (n.2.2.2.length≤24):=decide_eq_decide.2 (by omega)
 unfold zfb_ netB
 rw [hl,e2]
 simp only [z47_,Option.bind_some]
 by_cases c1:2≤n.1∧n.1≤12
 case neg=>simp [c1]
 by_cases c2:0≤n.2.1∧n.2.1≤z0_ (n.1-1)
 case neg=>simp [c1,c2]
 by_cases c3:0≤n.2.2.1∧n.2.2.1≤z0_ (n.1-1)
 case neg=>simp [c1,c2,c3]
 rw [decide_eq_true c1,decide_eq_true c2,decide_eq_true c3]
 cases decide (n.2.1=n.2.2.1) <;> cases (List.range n.2.2.2.length).all (arcB n) <;> simp
theorem ztk_ {k:Nat} (hk:KK≤k) {n:Net} (hn:n.2.2.2.length≤1048576):ze9_ k n=some (netB n):=by
 have hK:=zj_
 have e2:decide ((n.2.2.2.length:Int)≤24)=decide (n.2.2.2.length≤24):=decide_eq_decide.2 (by omega)
 have hE:((z2a_ n.1 2 12).bind fun r_11=>(if r_11=true then (z3j_ n.2.1 n.1).bind fun r_12=>(if r_12=true then (z3j_ n.2.2.1 n.1).bind fun r_13=>(if r_13=true then (if (!(decide (n.2.1=n.2.2.1)))=true then some (decide ((List.length n.2.2.2:Int)≤24)) else some false) else some false) else some false) else some false))=some (decide (2≤n.1∧n.1≤12)&&(decide (0≤n.2.1∧n.2.1≤z0_ (n.1-1))&&(decide (0≤n.2.2.1∧n.2.2.1≤z0_ (n.1-1))&&(!decide (n.2.1=n.2.2.1)&&decide (n.2.2.2.length≤24))))):=by
  unfold z3j_
  simp only [z46_,Option.bind_some,e2]
  by_cases c1:2≤n.1∧n.1≤12
  case neg=>simp [c1]
  by_cases c2:0≤n.2.1∧n.2.1≤z0_ (n.1-1)
  case neg=>simp [c1,c2]
  by_cases c3:0≤n.2.2.1∧n.2.2.1≤z0_ (n.1-1)
  case neg=>simp [c1,c2,c3]
  rw [decide_eq_true c1,decide_eq_true c2,decide_eq_true c3]
  cases decide (n.2.1=n.2.2.1) <;> simp
 unfold ze9_
 have hl:∀ E:Net→Option Bool,z66_ k k n.2.2.2 (n.2.2.2.length:Int) 0 n E=if (List.range n.2.2.2.length).all (arcB n)=true then E n else some false:=by
  intro E
  refine z2l_ (L:=fun m i=>z66_ k m n.2.2.2 (n.2.2.2.length:Int) i n E) (b:=n.2.2.2.length) (p:=arcB n) (r:=some false) ?_ ?_ (n:=k) (by omega)
  ·intro m i hi
   have hlt:(i:Int)<(n.2.2.2.length:Int):=by omega
   have hw:=zi_ (i:=i) (by omega)
   have hg:n.2.2.2[i]?=some n.2.2.2[i]:=List.getElem?_eq_getElem hi
   simp only [z66_,z3j_,hlt,decide_true,if_true,Int.natCast_nonneg,Int.toNat_natCast,hg,Option.bind_some,hw,z46_,arcB,za7_]
   generalize n.2.2.2[i]=a
   by_cases c1:0≤a.1∧a.1≤z0_ (n.1-1)
   case neg=>simp [c1]
   by_cases c2:0≤a.2.1∧a.2.1≤z0_ (n.1-1)
   case neg=>simp [c1,c2]
   by_cases c3:a.1=a.2.1
   ·simp only [c3,decide_true] at *; simp [c2]
   by_cases c4:0≤a.2.2∧a.2.2≤1000000
   case neg=>simp [c1,c2,c3,c4]
   rw [decide_eq_true c1,decide_eq_true c2,decide_eq_false c3,decide_eq_true c4]
   simp only [Bool.not_true,Bool.not_false,Bool.false_eq_true,if_false,Bool.true_and]
   by_cases h0:0<i
   ·have h0':(0:Int)<(i:Int):=by omega
    have hw1:z0_ ((i:Int)-1)=((i-1:Nat):Int):=by rw [w_id (by omega) (by omega)]; omega
    have hg1:n.2.2.2[i-1]?=some n.2.2.2[i-1]:=List.getElem?_eq_getElem (by omega)
    simp only [h0',h0,decide_true,if_true,hw1,Int.natCast_nonneg,Int.toNat_natCast,hg1,Option.bind_some,zjk_,zjl_ hk,zns_]
    generalize n.2.2.2[i-1]=t
    cases z7p_ t a <;> simp
   ·have h0':¬ (0:Int)<(i:Int):=by omega
    simp [h0,h0']
  ·intro m
   simp only [z66_,Int.lt_irrefl,decide_false,Bool.false_eq_true,if_false]
 rw [hl,hE]
 unfold netB
 cases (List.range n.2.2.2.length).all (arcB n) <;> simp
theorem zbp_ {α:Type} (p:α→Bool) (xs:List α):decide (0≤idxP p xs)=xs.any p:=by
 unfold idxP
 cases h:xs.findIdx? p with
 | some i =>
  obtain ⟨hlt,hp,_⟩:=List.findIdx?_eq_some_iff_getElem.1 h
  have:xs.any p=true:=List.any_eq_true.2 ⟨_,List.getElem_mem hlt,hp⟩
  rw [this]; simp
 | none =>
  rw [List.findIdx?_eq_none_iff] at h
  have:xs.any p=false:=List.any_eq_false.2 fun x hx=>by rw [h x hx]; simp
  rw [this]; simp
theorem znt_ {k:Nat} (hk:KK≤k) {l:List Int} (hl:l.length≤1000000000) (x:Int):z7i_ k l x=some (l.contains x):=by
 have hK:=zj_
 unfold z7i_
 have:=zdi_ (L:=fun n i=>z9w_ k n l x i (some false)) (p:=fun y=>!decide (y=x)) (r:=some true) (e:=some false) l ?_ ?_ (n:=k) (by omega)
 ·refine Eq.trans this ?_
  by_cases h:l.contains x=true
  ·rw [h,if_neg]
   rw [List.all_eq_true]
   intro q
   have:=q x (List.contains_iff_mem.1 h)
   simp at this
  ·have h':l.contains x=false:=by simpa using h
   rw [h',if_pos]
   rw [List.all_eq_true]
   intro y hy
   have:y≠x:=fun e=>h (List.contains_iff_mem.2 (e▸hy))
   simpa using this
 ·intro n i y hi hlt
  have hw:=zi_ (i:=i) (by omega)
  simp only [z9w_,hlt,decide_true,if_true,Int.natCast_nonneg,Int.toNat_natCast,hi,Option.bind_some,hw]
  by_cases e:y=x <;> simp [e]
 ·intro n
  simp only [z9w_,Int.lt_irrefl,decide_false,Bool.false_eq_true,if_false]
theorem znu_ {k:Nat} (hk:KK≤k) {l:List Int} (hl:l.length≤1000000000) (x:Int):z76_ k l x=some (l.contains x):=by
 have hK:=zj_
 unfold z76_ zi7_
 rw [z8m_ (L:=fun n i=>z91_ k n l x (l.length:Int) i (some (-1))) (p:=fun y=>decide (x=y)) l ?_ ?_ (n:=k) (by omega)]
 ·rw [Option.bind_some,zbp_]
  congr 1
  rw [Bool.eq_iff_iff,List.any_eq_true,List.contains_iff_mem]
  constructor
  ·rintro ⟨y,hy,h⟩; rw [of_decide_eq_true h]; exact hy
  ·intro h; exact ⟨x,h,decide_eq_true rfl⟩
 ·intro n i y hi hlt
  have hw:=zi_ (i:=i) (by omega)
  simp only [z91_,hlt,decide_true,if_true,Int.natCast_nonneg,Int.toNat_natCast,hi,Option.bind_some,hw]
 ·intro n
  simp [z91_]
theorem zjm_ {α:Type} {R:α→α→Prop} (tr:∀ a b c,R a b→R b c→R a c):∀ {l:List α},(∀ (i:Nat) (a b:α),l[i]?=some a→l[i+1]?=some b→R a b)→l.Pairwise R
 | [],_=>List.Pairwise.nil
 | [a],_=>List.pairwise_singleton ..
 | a::b::l,h=>by
  have h0:=h 0 a b rfl rfl
  have ih:=zjm_ tr (l:=b::l) (fun i x y hx hy=>h (i+1) x y hx hy)
  refine List.Pairwise.cons (fun x hx=>?_) ih
  rcases List.mem_cons.1 hx with rfl | hx
  ·exact h0
  ·exact tr _ _ _ h0 ((List.pairwise_cons.1 ih).1 x hx)
theorem znv_ {α:Type} {R:α→α→Prop} {l:List α} (h:l.Pairwise R) {i:Nat} {a b:α} (ha:l[i]?=some a) (hb:l[i+1]?=some b):R a b:=by
 obtain ⟨h1,rfl⟩:=List.getElem?_eq_some_iff.1 ha
 obtain ⟨h2,rfl⟩:=List.getElem?_eq_some_iff.1 hb
 exact List.pairwise_iff_getElem.1 h i (i+1) h1 h2 (by omega)
def z48_ {α:Type} (R:α→α→Prop) (l:List α) (i:Nat) (x:α):Prop:=0<i→∀ t,l[i-1]?=some t→R t x
theorem zg1_ {α:Type} {R:α→α→Prop} (tr:∀ a b c,R a b→R b c→R a c) {l:List α} {m:Nat} (h:∀ j,j<m→∀ x,l[j]?=some x→z48_ R l j x):(l.take m).Pairwise R:=by
 refine zjm_ tr fun i a b ha hb=>?_
 have hi:i+1<m:=by
  have:=(List.getElem?_eq_some_iff.1 hb).1
  rw [List.length_take] at this; omega
 rw [List.getElem?_take_of_lt (by omega)] at ha
 rw [List.getElem?_take_of_lt hi] at hb
 exact h (i+1) hi b hb (by omega) a (by simpa using ha)
theorem zjn_ {α:Type} {R:α→α→Prop} {l:List α} (h:l.Pairwise R) {i:Nat} {x:α} (hx:l[i]?=some x):z48_ R l i x:=fun h0 t ht=>by
 have e:i=(i-1)+1:=by omega
 rw [e] at hx
 exact znv_ h ht hx
theorem ztl_ {R:Type} {L:Nat→Int→R} {b:Nat} {p:Nat→Bool} {r e:R}
  (h1:∀ n (i:Nat),i<b→(∀ j,j<i→p j=true)→L (n+1) (i:Int)=if p i=true then L n ((i+1:Nat):Int) else r) (h2:∀ n,L (n+1) (b:Int)=e) {n:Nat} (hn:b<n):L n 0=if (List.range b).all p=true then e else r:=by
 refine z2t_ (α:=Nat) (A:=Unit) (L:=fun n i _=>L n i) (I:=fun pre _=>∀ j∈pre,p j=true) (G:=fun l _=>if l.all p=true then e else r) (List.range b) ?_ ?_ n (by simpa using hn) () (by simp)
 ·intro n pre x post _ hx hI ih hg hlt
  rw [List.length_range] at hlt
  have hxi:x=pre.length:=by
   rw [List.getElem?_range (by omega)] at hg
   simpa using hg.symm
  subst hxi
  have hpre:pre=List.range pre.length:=by
   have:=congrArg (List.take pre.length) hx
   rw [List.take_left,List.take_range] at this
   rw [Nat.min_eq_left (by omega)] at this
   exact this.symm
  rw [h1 n pre.length (by omega) (fun j hj=>hI j (by rw [hpre]; simpa using hj))]
  by_cases hp:p pre.length=true
  ·rw [if_pos hp,ih () (fun j hj=>by
    rcases List.mem_append.1 hj with hj | hj
    ·exact hI j hj
    ·rw [List.mem_singleton.1 hj]; exact hp)]
   simp [hp]
  ·rw [if_neg hp]; simp [hp]
 ·intro n _ _
  simpa using h2 n
structure SimpP (s:List Int):Prop where
 len1:1≤s.length
 len4:s.length≤4
 vert:∀ x∈s,0≤x∧x≤9
 rise:s.Pairwise (fun a b:Int=>a<b)
open Classical in
noncomputable def z6e_ (s:List Int):Bool:=decide (SimpP s)
theorem z6f_ {s:List Int}:z6e_ s=true↔SimpP s:=by unfold z6e_; simp
open Classical in
theorem znw_ {k:Nat} (hk:KK≤k) {s:List Int} (hs:s.length≤1000000000) (lo up:Int):zbi_ k s lo up=some (decide ((∀ x∈s,lo≤x∧x≤up)∧s.Pairwise (fun a b:Int=>a<b))):=by
 have hK:=zj_
 unfold zbi_
 have:=z2l_ (L:=fun n i=>z7a_ k n s lo up i (some true)) (b:=s.length) (p:=fun i=>decide (∀ x,s[i]?=some x→(lo≤x∧x≤up)∧z48_ (fun a b:Int=>a<b) s i x)) (r:=some false) (e:=some true) ?_ ?_ (n:=k) (by omega)
 ·rw [this]
  have e:((List.range s.length).all (fun i=>decide (∀ x,s[i]?=some x→(lo≤x∧x≤up)∧z48_ (fun a b:Int=>a<b) s i x))=true)↔((∀ x∈s,lo≤x∧x≤up)∧s.Pairwise (fun a b:Int=>a<b)):=by
   simp only [List.all_eq_true,List.mem_range,decide_eq_true_eq]
   constructor
   ·intro h
    refine ⟨fun x hx=>?_,?_⟩
    ·obtain ⟨i,hi,rfl⟩:=List.getElem_of_mem hx
     exact (h i hi _ (List.getElem?_eq_getElem hi)).1
    ·have:=zg1_ (R:=fun a b:Int=>a<b) (fun a b c=>Int.lt_trans) (l:=s) (m:=s.length) (fun j hj x hx=>(h j hj x hx).2)
     rwa [List.take_length] at this
   ·rintro ⟨h1,h2⟩ i hi x hx
    exact ⟨h1 x (List.mem_of_getElem? hx),zjn_ h2 hx⟩
  by_cases c:((∀ x∈s,lo≤x∧x≤up)∧s.Pairwise (fun a b:Int=>a<b))
  ·rw [if_pos (e.2 c),decide_eq_true c]
  ·rw [if_neg (fun h=>c (e.1 h)),decide_eq_false c]
 ·intro n i hi
  have hlt:(i:Int)<(s.length:Int):=by omega
  have hw:=zi_ (i:=i) (by omega)
  have hg:s[i]?=some s[i]:=List.getElem?_eq_getElem hi
  simp only [z7a_,hlt,decide_true,if_true,Int.natCast_nonneg,Int.toNat_natCast,hg,Option.bind_some,hw,z47_,Option.some.injEq,forall_eq']
  by_cases c1:lo≤s[i]∧s[i]≤up
  ·rw [decide_eq_true c1]
   simp only [Bool.not_true,Bool.false_eq_true,if_false]
   by_cases h0:0<i
   ·have h0':(0:Int)<(i:Int):=by omega
    have hw1:z0_ ((i:Int)-1)=((i-1:Nat):Int):=by rw [w_id (by omega) (by omega)]; omega
    have hg1:s[i-1]?=some s[i-1]:=List.getElem?_eq_getElem (by omega)
    simp only [h0',decide_true,if_true,hw1,Int.natCast_nonneg,Int.toNat_natCast,hg1,Option.bind_some]
    by_cases c2:s[i-1]<s[i]
    ·have:z48_ (fun a b:Int=>a<b) s i s[i]:=fun _ t ht=>by rw [hg1] at ht; cases ht; exact c2
     rw [if_neg (by simp; omega),if_pos (decide_eq_true ⟨c1,this⟩)]
    ·have:¬ z48_ (fun a b:Int=>a<b) s i s[i]:=fun h=>c2 (h h0 _ hg1)
     rw [if_pos (decide_eq_true (by omega)),if_neg (fun h=>this (of_decide_eq_true h).2)]
   ·have h0':¬ (0:Int)<(i:Int):=by omega
    have:z48_ (fun a b:Int=>a<b) s i s[i]:=fun h=>absurd h h0
    rw [decide_eq_false h0',if_neg (by simp),if_pos (decide_eq_true ⟨c1,this⟩)]
  ·rw [decide_eq_false c1,if_pos (by simp),if_neg (fun h=>c1 (of_decide_eq_true h).1)]
 ·intro n
  simp only [z7a_,Int.lt_irrefl,decide_false,Bool.false_eq_true,if_false]
open Classical in
theorem ztm_ {k:Nat} (hk:KK≤k) {s:List Int} (hs:s.length≤1000000000):zf3_ k s=some (z6e_ s):=by
 unfold zf3_
 rw [z47_]
 simp only [Option.bind_some,znw_ hk hs]
 by_cases c:(1:Int)≤(s.length:Int)∧(s.length:Int)≤4
 ·rw [decide_eq_true c,if_pos rfl]
  congr 1
  unfold z6e_
  refine decide_eq_decide.2 ⟨fun h=>⟨by omega,by omega,h.1,h.2⟩,fun h=>⟨h.vert,h.rise⟩⟩
 ·rw [decide_eq_false c,if_neg (by simp)]
  congr 1
  unfold z6e_
  rw [decide_eq_false (fun h:SimpP s=>c ⟨by have:=h.len1; omega,by have:=h.len4; omega⟩)]
open Classical in
theorem znx_ {k:Nat} (hk:KK≤k) {s:List Int} (hs:s.length≤1000000000):zbe_ k s=some (decide (s.Pairwise (fun a b:Int=>a<b))):=by
 have hK:=zj_
 unfold zbe_
 have key:∀ (d n i:Nat),s.length-i=d→d<n→0<i→(s.take i).Pairwise (fun a b:Int=>a<b)→z9x_ k n s (i:Int) (some true)=some (decide (s.Pairwise (fun a b:Int=>a<b))):=by
  intro d
  induction d with
  | zero =>
   intro n i hd hn h0 hp
   obtain ⟨n,rfl⟩:∃ m,n=m+1:=⟨n-1,by omega⟩
   have:¬ (i:Int)<(s.length:Int):=by omega
   rw [List.take_of_length_le (by omega)] at hp
   simp only [z9x_,this,decide_false,Bool.false_eq_true,if_false,decide_eq_true hp]
  | succ d ih =>
   intro n i hd hn h0 hp
   obtain ⟨n,rfl⟩:∃ m,n=m+1:=⟨n-1,by omega⟩
   have hi:i<s.length:=by omega
   have hlt:(i:Int)<(s.length:Int):=by omega
   have hw:=zi_ (i:=i) (by omega)
   have hw1:z0_ ((i:Int)-1)=((i-1:Nat):Int):=by rw [w_id (by omega) (by omega)]; omega
   have hg:s[i]?=some s[i]:=List.getElem?_eq_getElem hi
   have hg1:s[i-1]?=some s[i-1]:=List.getElem?_eq_getElem (by omega)
   simp only [z9x_,hlt,decide_true,if_true,Int.natCast_nonneg,Int.toNat_natCast,hg,hg1,Option.bind_some,hw,hw1]
   by_cases c:s[i-1]<s[i]
   ·rw [decide_eq_false (show ¬ s[i]≤s[i-1] by omega),if_neg (by simp)]
    refine ih n (i+1) (by omega) (by omega) (by omega) ?_
    refine zjm_ (R:=fun a b:Int=>a<b) (fun a b c=>Int.lt_trans) fun j a b ha hb=>?_
    have hj:j+1<i+1:=by
     have:=(List.getElem?_eq_some_iff.1 hb).1
     rw [List.length_take] at this; omega
    rw [List.getElem?_take_of_lt (by omega)] at ha
    rw [List.getElem?_take_of_lt hj] at hb
    by_cases hji:j+1=i
    ·have e1:a=s[i-1]:=by
      have:s[j]?=s[i-1]?:=by rw [show j=i-1 by omega]
      rw [ha,hg1] at this
      exact Option.some.inj this
     have e2:b=s[i]:=by
      rw [hji,hg] at hb
      exact (Option.some.inj hb).symm
     rw [e1,e2]; exact c
    ·exact znv_ hp (i:=j) (by rw [List.getElem?_take_of_lt (by omega)]; exact ha) (by rw [List.getElem?_take_of_lt (by omega)]; exact hb)
   ·rw [decide_eq_true (show s[i]≤s[i-1] by omega),if_pos rfl]
    congr 1
    refine (decide_eq_false fun h=>c ?_).symm
    exact List.pairwise_iff_getElem.1 h (i-1) i (by omega) hi (by omega)
 have h1:=key (s.length-1) k 1 rfl (by omega) (by omega) (by cases s with
  | nil=>simp
  | cons a l=>simp)
 exact h1
theorem ztn_ {k:Nat} (hk:KK≤k) {s:List Int} (hs:s.length≤1000000000):zfp_ k s ()=some (s.any fun x=>!decide (0≤x∧x≤9)):=by
 have hK:=zj_
 unfold zfp_ zjd_
 rw [z8m_ (L:=fun n i=>z9y_ k n s () (s.length:Int) i (some (-1))) (p:=fun x=>!decide (0≤x∧x≤9)) s ?_ ?_ (n:=k) (by omega)]
 ·rw [Option.bind_some,zbp_]
 ·intro n i x hi hlt
  have hw:=zi_ (i:=i) (by omega)
  simp only [z9y_,zjc_,zjb_,z46_,hlt,decide_true,if_true,Int.natCast_nonneg,Int.toNat_natCast,hi,Option.bind_some,hw]
 ·intro n
  simp [z9y_]
theorem zto_ {k:Nat} (hk:KK≤k) {s:List Int} (hs:s.length≤1000000000):zfq_ k s=some (z6e_ s):=by
 unfold zfq_
 by_cases c1:1≤s.length
 ·rw [decide_eq_true (show (1:Int)≤(s.length:Int) by omega),if_pos rfl]
  by_cases c2:s.length≤4
  ·rw [decide_eq_true (show (s.length:Int)≤4 by omega),if_pos rfl,znx_ hk hs,ztn_ hk hs]
   simp only [Option.bind_some]
   by_cases c3:s.Pairwise (fun a b:Int=>a<b)
   ·rw [decide_eq_true c3,if_pos rfl]
    congr 1
    rw [Bool.eq_iff_iff,z6f_]
    simp only [Bool.not_eq_true',List.any_eq_false,Bool.not_eq_true,decide_eq_false_iff_not,Bool.not_eq_false',decide_eq_true_eq]
    exact ⟨fun h=>⟨c1,c2,fun x hx=>by simpa using h x hx,c3⟩,fun h x hx=>by simpa using h.vert x hx⟩
   ·rw [decide_eq_false c3,if_neg (by simp)]
    congr 1
    symm
    rw [Bool.eq_false_iff,ne_eq,z6f_]
    exact fun h=>c3 h.rise
  ·rw [decide_eq_false (show ¬ (s.length:Int)≤4 by omega),if_neg (by simp)]
   congr 1
   symm
   rw [Bool.eq_false_iff,ne_eq,z6f_]
   exact fun h=>c2 h.len4
 ·rw [decide_eq_false (show ¬ (1:Int)≤(s.length:Int) by omega),if_neg (by simp)]
  congr 1
  symm
  rw [Bool.eq_false_iff,ne_eq,z6f_]
  exact fun h=>c1 h.len1
theorem zny_ {k:Nat} {p:Int} (hp:p≤251):∀ (m d n:Nat),17-d≤m→2≤d→m<n→d≤17→∃ b,z5e_ k n p (d:Int) (some true)=some b∧z5j_ k n p (d:Int) (some true)=some b
 | m,d,0,_,_,h,_=>by omega
 | 0,d,n+1,h,h2,_,h4=>by
  have hd:d=17:=by omega
  subst hd
  have w1:z0_ (((17:Nat):Int)*((17:Nat):Int))=289:=by rw [w_id (by omega) (by omega)]; rfl
  have hc:¬ ((289:Int)≤p):=by omega
  refine ⟨true,?_,?_⟩
  ·unfold z5e_; rw [w1,decide_eq_false hc,if_neg (by simp)]
  ·unfold z5j_; rw [w1,decide_eq_false hc,if_neg (by simp)]
 | m+1,d,n+1,h,h2,hn,h4=>by
  by_cases hc:z0_ ((d:Int)*(d:Int))≤p
  ·have hd0:¬ ((d:Int)=0):=by omega
   have hw:=zi_ (i:=d) (by omega)
   by_cases hm:Int.tmod p (d:Int)=0
   ·refine ⟨false,?_,?_⟩
    ·unfold z5e_; rw [decide_eq_true hc,if_pos rfl,if_neg hd0,decide_eq_true hm,if_pos rfl]
    ·unfold z5j_; rw [decide_eq_true hc,if_pos rfl,if_neg hd0,decide_eq_true hm,if_pos rfl]
   ·by_cases h17:d=17
    ·subst h17
     have w1:z0_ (((17:Nat):Int)*((17:Nat):Int))=289:=by rw [w_id (by omega) (by omega)]; rfl
     rw [w1] at hc; omega
    ·obtain ⟨b,h5,h6⟩:=zny_ (k:=k) hp m (d+1) n (by omega) (by omega) (by omega) (by omega)
     refine ⟨b,?_,?_⟩
     ·rw [← h5]; conv=>lhs; unfold z5e_
      rw [decide_eq_true hc,if_pos rfl,if_neg hd0,decide_eq_false hm,if_neg (by simp),hw]
     ·rw [← h6]; conv=>lhs; unfold z5j_
      rw [decide_eq_true hc,if_pos rfl,if_neg hd0,decide_eq_false hm,if_neg (by simp),hw]
  ·refine ⟨true,?_,?_⟩
   ·unfold z5e_; rw [decide_eq_false hc,if_neg (by simp)]
   ·unfold z5j_; rw [decide_eq_false hc,if_neg (by simp)]
theorem znz_ {k:Nat} (hk:KK≤k) (p:Int):∃ b,z7c_ k p=some b∧z8w_ k p=some b∧(b=true→2≤p∧p≤251):=by
 have hK:=zj_
 unfold z7c_ zid_ z8w_
 rw [z47_,z46_]
 by_cases h:2≤p∧p≤251
 ·obtain ⟨b,h1,h2⟩:=zny_ (k:=k) (p:=p) h.2 15 2 k (by omega) (by omega) (by omega) (by omega)
  have h1:z5e_ k k p 2 (some true)=some b:=h1
  have h2:z5j_ k k p 2 (some true)=some b:=h2
  refine ⟨b,?_,?_,fun _=>h⟩
  ·simp [h,h1]
  ·simp [h,h2]
 ·exact ⟨false,by simp [h],by simp [h],fun h=>by cases h⟩
abbrev Mat:=Int×Int×Int×List Int
theorem zbq_ {k:Nat} (hk:KK≤k) {v:List Int} (hv:v.length≤1048576) (n:Int) {p:Int} (hp:-1000000≤p∧p≤1000000):z45_ k v n p=some (v.all (fun x=>decide (0≤x∧x≤p-1))&&decide ((v.length:Int)=n)):=by
 have hK:=zj_
 have hw1:z0_ (p-1)=p-1:=w_id (by omega) (by omega)
 unfold z45_
 have:=zdi_ (L:=fun m i=>z9l_ k m v n p i (fun v_3 n_4=>some (decide ((List.length v_3:Int)=n_4)))) (p:=fun x=>decide (0≤x∧x≤p-1)) (r:=some false) (e:=some (decide ((v.length:Int)=n))) v ?_ ?_ (n:=k) (by omega)
 ·refine this.trans ?_
  cases v.all (fun x=>decide (0≤x∧x≤p-1)) <;> simp
 ·intro m i x hx hlt
  have hw:=zi_ (i:=i) (by omega)
  simp only [z9l_,hlt,decide_true,if_true,Int.natCast_nonneg,Int.toNat_natCast,hx,Option.bind_some,z47_,hw1,hw]
  by_cases c:0≤x∧x≤p-1 <;> simp [c]
 ·intro m
  simp only [z9l_,Int.lt_irrefl,decide_false,Bool.false_eq_true,if_false]
theorem zjo_ {k:Nat} (hk:KK≤k) {v:List Int} (hv:v.length≤1048576) {p:Int} (hp:-1000000≤p∧p≤1000000):z8v_ k v p=some (v.all (fun x=>decide (0≤x∧x≤p-1))):=by
 have hK:=zj_
 have hw1:z0_ (p-1)=p-1:=w_id (by omega) (by omega)
 unfold z8v_ zi3_ zi2_
 rw [z8m_ (L:=fun n i=>z8u_ k n v p (v.length:Int) i (some (-1))) (p:=fun x=>!decide (0≤x∧x≤p-1)) v ?_ ?_ (n:=k) (by omega)]
 ·simp only [Option.bind_some,zbp_]
  congr 1
  rw [← List.not_all_eq_any_not,Bool.not_not]
 ·intro n i x hi hlt
  have hw:=zi_ (i:=i) (by omega)
  simp only [z8u_,zi1_,z3j_,z46_,hw1,hlt,decide_true,if_true,Int.natCast_nonneg,Int.toNat_natCast,hi,Option.bind_some,hw]
 ·intro n
  simp [z8u_]
structure MatP (m:Mat) (R C:Nat):Prop where
 rows:m.2.1=(R:Int)
 cols:m.2.2.1=(C:Int)
 r32:R≤32
 c32:C≤32
 len:m.2.2.2.length=R*C
 prime:2≤m.1∧m.1≤251
 cells:∀ x∈m.2.2.2,0≤x∧x≤250
theorem ztp_ {k:Nat} (hk:KK≤k) {m:Mat} (hv:m.2.2.2.length≤1048576):∃ b,z9r_ k m=some b∧zbb_ k m=some b∧(b=true→∃ R C,MatP m R C):=by
 obtain ⟨b,h1,h2,h3⟩:=znz_ hk m.1
 unfold z9r_ zbb_ ze4_ z74_
 rw [h1,h2]
 cases b
 ·exact ⟨false,by simp,by simp,fun h=>by cases h⟩
 ·have hp:=h3 rfl
  simp only [Option.bind_some,if_true,z47_,z46_,zbq_ hk hv _ (show -1000000≤m.1∧m.1≤1000000 by omega),zjo_ hk hv (show -1000000≤m.1∧m.1≤1000000 by omega)]
  by_cases c1:0≤m.2.1∧m.2.1≤32
  ·by_cases c2:0≤m.2.2.1∧m.2.2.1≤32
   ·rw [decide_eq_true c1,decide_eq_true c2,if_pos rfl,if_pos rfl,if_pos rfl,if_pos rfl]
    obtain ⟨R,hR⟩:=Int.eq_ofNat_of_zero_le c1.1
    obtain ⟨C,hC⟩:=Int.eq_ofNat_of_zero_le c2.1
    have hRC:R*C≤32*32:=Nat.mul_le_mul (by omega) (by omega)
    have hw:z0_ (m.2.1*m.2.2.1)=((R*C:Nat):Int):=by
     rw [hR,hC,← Int.natCast_mul]
     exact w_id (by omega) (by omega)
    rw [hw]
    refine ⟨m.2.2.2.all (fun x=>decide (0≤x∧x≤m.1-1))&&decide ((m.2.2.2.length:Int)=((R*C:Nat):Int)),rfl,?_,fun h=>?_⟩
    ·by_cases c3:(m.2.2.2.length:Int)=((R*C:Nat):Int)
     ·rw [decide_eq_true c3,if_pos rfl,Bool.and_true]
     ·rw [decide_eq_false c3,if_neg (by simp),Bool.and_false]
    ·simp only [Bool.and_eq_true,List.all_eq_true,decide_eq_true_eq] at h
     refine ⟨R,C,hR,hC,by omega,by omega,by omega,hp,fun x hx=>?_⟩
     have:=h.1 x hx
     omega
   ·exact ⟨false,by simp [c1,c2],by simp [c1,c2],fun h=>by cases h⟩
  ·exact ⟨false,by simp [c1],by simp [c1],fun h=>by cases h⟩
theorem zo0_ {d:Nat} (h:d<10):z_u8 (UInt8.ofNat (48+d))=((48+d:Nat):Int):=by
 have:(UInt8.ofNat (48+d)).toNat=48+d:=by simp [UInt8.toNat_ofNat']; omega
 show ((UInt8.ofNat (48+d)).toNat:Int)=_
 rw [this]
theorem zjp_ {d:Nat} (h:d<10):w_u8 (z0_ (48+(d:Int)))=((48+d:Nat):Int):=by
 rw [w_id (by omega) (by omega)]
 unfold w_u8 IntKind.wrap
 simp [IntKind.bits,IntKind.signed]; omega
def revD (u:Nat):List Int:=if u=0 then [] else ((Lib.decDigits u).map z_u8).reverse
theorem zg2_ {u:Nat} (h:u≠0):revD u=((48+u % 10:Nat):Int)::revD (u / 10):=by
 unfold revD
 rw [if_neg h]
 by_cases h1:u<10
 ·rw [Lib.decDigits,dif_pos h1,if_pos (by omega)]
  have:=zo0_ h1
  rw [Nat.mod_eq_of_lt h1,List.map_cons,List.map_nil,this]
  rfl
 ·rw [Lib.decDigits,dif_neg h1,if_neg (by omega)]
  have:=zo0_ (d:=u % 10) (by omega)
  rw [List.map_append,List.map_cons,List.map_nil,this,List.reverse_append]
  rfl
theorem zjq_:∀ (j u:Nat),u<10 ^ j→(revD u).length≤j
 | 0,u,h=>by
  have:u=0:=by simpa using h
  subst this; simp [revD]
 | j+1,u,h=>by
  by_cases h0:u=0
  ·subst h0; simp [revD]
  ·rw [zg2_ h0,List.length_cons]
   have:=zjq_ j (u / 10) (by rw [Nat.pow_succ] at h; omega)
   omega
theorem zjr_ {k:Nat} {n0:Int} {E:Int→List Int→Option (List UInt8)}:∀ (j u n:Nat) (m:Int) (q:List Int),(m=(u:Int)∨m=-(u:Int))→u<10 ^ j→u≤9223372036854775808→-9223372036854775808≤m→m≤9223372036854775807→q.length+j≤100→j<n→z5h_ k n n0 m q E=E n0 (q++revD u)
 | j,u,0,m,q,_,_,_,_,_,_,h=>by omega
 | 0,u,n+1,m,q,hm,hu,_,_,_,_,_=>by
  have h0:u=0:=by simpa using hu
  subst h0
  have hm0:m=0:=by omega
  subst hm0
  simp [z5h_,revD]
 | j+1,u,n+1,m,q,hm,hu,hub,hm1,hm2,hq,hn=>by
  have hL:=z2k_
  by_cases h0:u=0
  ·subst h0
   have hm0:m=0:=by omega
   subst hm0
   simp [z5h_,revD]
  ·have hm0:¬ m=0:=by omega
   have hlim:(q.length+1)*1≤LIM:=by omega
   have hd:u % 10<10:=by omega
   have hj:u / 10<10 ^ j:=by rw [Nat.pow_succ] at hu; omega
   rcases hm with hm | hm
   ·subst hm
    have t1:Int.tmod (u:Int) 10=((u % 10:Nat):Int):=by rw [Int.tmod_eq_emod_of_nonneg (by omega)]; omega
    have t2:Int.tdiv (u:Int) 10=((u / 10:Nat):Int):=by rw [Int.tdiv_eq_ediv_of_nonneg (by omega)]; omega
    have w2:z0_ ((u / 10:Nat):Int)=((u / 10:Nat):Int):=w_id (by omega) (by omega)
    have hlt:¬ (((u % 10:Nat):Int)<0):=by omega
    have ih:=zjr_ (k:=k) (n0:=n0) (E:=E) j (u / 10) n ((u / 10:Nat):Int) (q++[((48+u % 10:Nat):Int)]) (.inl rfl) hj (by omega) (by omega) (by omega) (by simp; omega) (by omega)
    unfold z5h_
    rw [decide_eq_false hm0,if_pos (by rfl),t1,t2,decide_eq_false hlt,if_neg (by simp),zjp_ hd,w2,List.length_singleton,if_pos hlim,ih,List.append_assoc,zg2_ h0]
    rfl
   ·subst hm
    have t1:Int.tmod (-(u:Int)) 10=-((u % 10:Nat):Int):=by rw [Int.neg_tmod,Int.tmod_eq_emod_of_nonneg (by omega)]; omega
    have t2:Int.tdiv (-(u:Int)) 10=-((u / 10:Nat):Int):=by rw [Int.neg_tdiv,Int.tdiv_eq_ediv_of_nonneg (by omega)]; omega
    have w2:z0_ (-((u / 10:Nat):Int))=-((u / 10:Nat):Int):=w_id (by omega) (by omega)
    have ih:=zjr_ (k:=k) (n0:=n0) (E:=E) j (u / 10) n (-((u / 10:Nat):Int)) (q++[((48+u % 10:Nat):Int)]) (.inr rfl) hj (by omega) (by omega) (by omega) (by simp; omega) (by omega)
    unfold z5h_
    rw [decide_eq_false hm0,if_pos (by rfl),t1,t2,w2]
    by_cases hz:u % 10=0
    ·have hlt:¬ (-((u % 10:Nat):Int)<0):=by omega
     have hw:w_u8 (z0_ (48+-((u % 10:Nat):Int)))=((48+u % 10:Nat):Int):=by
      rw [hz]
      exact zjp_ (d:=0) (by omega)
     rw [decide_eq_false hlt,if_neg (by simp),hw,List.length_singleton,if_pos hlim,ih,List.append_assoc,zg2_ h0]
     rfl
    ·have hlt:-((u % 10:Nat):Int)<0:=by omega
     have hw:w_u8 (z0_ (48+z0_ (0- -((u % 10:Nat):Int))))=((48+u % 10:Nat):Int):=by
      rw [show (0:Int)- -((u % 10:Nat):Int)=((u % 10:Nat):Int) by omega,w_id (x:=((u % 10:Nat):Int)) (by omega) (by omega)]
      exact zjp_ hd
     rw [decide_eq_true hlt,if_pos rfl,hw,List.length_singleton,if_pos hlim,ih,List.append_assoc,zg2_ h0]
     rfl
theorem zjs_ {k:Nat} {q:List Int} (hq:q.length≤1000) {E:List Int→Option (List UInt8)}:∀ (j n:Nat) (acc:List Int),j≤q.length→acc.length+j≤1000→j<n→z7g_ k n ((j:Int)-1) q acc E=E (acc++(q.take j).reverse)
 | j,0,_,_,_,h=>by omega
 | 0,n+1,acc,_,_,_=>by
  have:¬ (0≤((0:Nat):Int)-1):=by omega
  simp only [z7g_,this,decide_false,Bool.false_eq_true,if_false,List.take_zero,List.reverse_nil,List.append_nil]
 | j+1,n+1,acc,hj,ha,hn=>by
  have hL:=z2k_
  have e0:((j+1:Nat):Int)-1=(j:Int):=by omega
  have hjl:j<q.length:=by omega
  have ew:z0_ ((j:Int)-1)=(j:Int)-1:=w_id (by omega) (by omega)
  have hlim:(acc.length+1)*1≤LIM:=by omega
  have ih:=zjs_ (k:=k) hq (E:=E) j n (acc++[q[j]]) (by omega) (by simp; omega) (by omega)
  rw [e0]
  simp only [z7g_,Int.natCast_nonneg,decide_true,if_true,Int.toNat_natCast,hjl,and_self,List.getElem?_eq_getElem hjl,Option.bind_some,List.length_singleton,hlim,ew,ih]
  rw [List.take_succ_eq_append_getElem hjl,List.reverse_append]
  simp
theorem zo1_ (l:List UInt8):to_S (l.map z_u8)=l:=by
 unfold to_S
 rw [List.map_map]
 have:((fun x:Int=>x.toNat.toUInt8) ∘ z_u8)=id:=by
  funext b
  simp [z_u8]
 simp [this]
theorem ztq_ {k:Nat} (hk:KK≤k) {n:Int} (h1:-9223372036854775808≤n) (h2:n≤9223372036854775807):z9u_ k n=some (Lib.itoa n):=by
 have hK:=zj_
 have hL:=z2k_
 unfold z9u_ Lib.itoa
 by_cases h0:n=0
 ·subst h0
  rw [decide_eq_true rfl,if_pos rfl,if_neg (by omega)]
  rw [show (0:Int).toNat=0 from rfl,Lib.decDigits,dif_pos (by omega)]
  rfl
 ·have hp:n.natAbs<10 ^ 19:=by
   have:n.natAbs≤9223372036854775808:=by omega
   exact Nat.lt_of_le_of_lt this (by decide)
  have hl:=zjq_ 19 n.natAbs hp
  have hu:n.natAbs≠0:=by omega
  have hr:revD n.natAbs=((Lib.decDigits n.natAbs).map z_u8).reverse:=by unfold revD; rw [if_neg hu]
  rw [decide_eq_false h0,if_neg (by simp),zjr_ 19 n.natAbs k n [] (by omega) hp (by omega) h1 h2 (by simp) (by omega),List.nil_append]
  by_cases hn:n<0
  ·have hl1:((revD n.natAbs).length+1)*1≤LIM:=by omega
   have hb:=zjs_ (k:=k) (q:=revD n.natAbs++[45]) (by simp; omega) (E:=fun q=>some (to_S q)) (revD n.natAbs++[45]).length k [] (Nat.le_refl _) (by simp; omega) (by simp; omega)
   have hw:z0_ (((revD n.natAbs++[45]).length:Int)-1)=((revD n.natAbs++[45]).length:Int)-1:=w_id (by omega) (by simp; omega)
   rw [decide_eq_true hn,if_pos rfl,if_pos hn,List.length_singleton,if_pos hl1,hw,hb,List.take_length,List.nil_append,hr]
   congr 1
   have e:(((Lib.decDigits n.natAbs).map z_u8).reverse++[(45:Int)]).reverse=((45:UInt8)::Lib.decDigits n.natAbs).map z_u8:=by
    rw [List.reverse_append,List.reverse_reverse]; rfl
   rw [e,zo1_]
  ·have hb:=zjs_ (k:=k) (q:=revD n.natAbs) (by omega) (E:=fun q=>some (to_S q)) (revD n.natAbs).length k [] (Nat.le_refl _) (by simp; omega) (by omega)
   have hw:z0_ (((revD n.natAbs).length:Int)-1)=((revD n.natAbs).length:Int)-1:=w_id (by omega) (by omega)
   have hna:n.natAbs=n.toNat:=by omega
   rw [decide_eq_false hn,if_neg (by simp),if_neg hn,hw,hb,List.take_length,List.nil_append,hr,List.reverse_reverse,zo1_,hna]
theorem ztr_ {n:Int} (h1:-9223372036854775808≤n) (h2:n≤9223372036854775807):zef_ n=some (Lib.itoa n):=by
 unfold zef_ znd_
 rw [if_pos ⟨rfl,h1,h2⟩]; rfl
def sumL {α:Type} (f:α→Nat) (l:List α):Nat:=(l.map f).sum
theorem z7q_ {α:Type} (f:α→Nat):sumL f []=0:=rfl
theorem z3p_ {α:Type} (f:α→Nat) (x:α) (l:List α):sumL f (x::l)=f x+sumL f l:=by simp [sumL]
theorem zg3_ {α:Type} (f:α→Nat) (l m:List α):sumL f (l++m)=sumL f l+sumL f m:=by simp [sumL]
theorem z5k_ {α:Type} (f:α→Nat) {x:α} {l:List α} (h:x∈l):f x≤sumL f l:=by
 induction l with
 | nil=>cases h
 | cons y l ih =>
  rw [z3p_]
  rcases List.mem_cons.1 h with rfl | h
  ·omega
  ·have:=ih h; omega
theorem zo2_ {α:Type} (xs:List α) {s:α→Nat} {L:Nat→Int→Int→Option Int}
  (h1:∀ n (i:Nat) x r,xs[i]?=some x→(i:Int)<xs.length→x∈xs→0≤r→r≤1048576→L (n+1) (i:Int) r=if (s x:Int)≤r then L n ((i+1:Nat):Int) (r-(s x:Int)) else some (-1))
  (h2:∀ n r,L (n+1) (xs.length:Int) r=some r) {n:Nat} (hn:xs.length<n) {r:Int} (h0:0≤r) (hr:r≤1048576):L n 0 r=some (if (sumL s xs:Int)≤r then r-(sumL s xs:Int) else -1):=by
 refine z2t_ (L:=L) (I:=fun _ r=>0≤r∧r≤1048576) (G:=fun post r=>some (if (sumL s post:Int)≤r then r-(sumL s post:Int) else -1)) xs ?_ ?_ n hn r ⟨h0,hr⟩
 ·intro n pre x post r hx hI ih hg hlt
  rw [h1 n pre.length x r hg hlt (List.mem_of_getElem? hg) hI.1 hI.2]
  have hc:sumL s (x::post)=s x+sumL s post:=z3p_ _ _ _
  by_cases c:(s x:Int)≤r
  ·rw [if_pos c,ih (r-(s x:Int)) ⟨by omega,by omega⟩]
   by_cases c2:(sumL s post:Int)≤r-(s x:Int)
   ·rw [if_pos c2,if_pos (by omega)]; congr 1; omega
   ·rw [if_neg c2,if_neg (by omega)]
  ·rw [if_neg c,if_neg (by omega)]
 ·intro n r hI
  rw [h2,z7q_,if_pos (by simpa using hI.1)]; simp
theorem zts_ {k:Nat} (hk:KK≤k) {n:Int} (h:n≤9223372036854775807):∃ t,z5c_ k n=some t:=by
 unfold z5c_
 by_cases h0:n≤0
 ·exact ⟨[109,48],by simp [h0]⟩
 ·simp only [decide_eq_true_eq,h0,if_false]
  have key:∀ (m:Nat) (n:Int) (out:List UInt8),0≤n→n<10 ^ m→n≤9223372036854775807→out.length+m≤100→∀ q,m<q→∃ t,z78_ k q n out (fun out_1=>(if [109].length+out_1.length≤9223372036854775807 then some ([109]++out_1) else none))=some t:=by
   intro m
   induction m with
   | zero =>
    intro n out h1 h2 h3 h4 q hq
    obtain ⟨q,rfl⟩:∃ p,q=p+1:=⟨q-1,by omega⟩
    have:¬ 0<n:=by simp at h2; omega
    have h5:1+out.length≤9223372036854775807:=by omega
    exact ⟨[109]++out,by simp only [z78_,decide_eq_true_eq,this,if_false,List.length_singleton,h5,if_true]⟩
   | succ m ih =>
    intro n out h1 h2 h3 h4 q hq
    obtain ⟨q,rfl⟩:∃ p,q=p+1:=⟨q-1,by omega⟩
    by_cases hn:0<n
    ·have hd:Int.tdiv n 10=n / 10:=Int.tdiv_eq_ediv_of_nonneg h1
     have hw:z0_ (Int.tdiv n 10)=n / 10:=by rw [hd,w_id (by omega) (by omega)]
     have h5:1+out.length≤9223372036854775807:=by omega
     have h6:n / 10<10 ^ m:=by
      rw [Int.pow_succ] at h2
      omega
     obtain ⟨t,ht⟩:=ih (n / 10) ((to_S [(w_u8 ((z0_ (48+(Int.tmod n 10)))))])++out) (by omega) h6 (by omega) (by simp; omega) q (by omega)
     refine ⟨t,?_⟩
     simp only [z78_,decide_eq_true_eq,hn,if_true,hw]
     rw [if_pos (by simp; omega)]
     exact ht
    ·have h5:1+out.length≤9223372036854775807:=by omega
     exact ⟨[109]++out,by simp only [z78_,decide_eq_true_eq,hn,if_false,List.length_singleton,h5,if_true]⟩
  exact key 20 n [] (by omega) (by omega) h (by simp) k (by have:=zj_; omega)
noncomputable def tM (k:Nat) (m:Int):List UInt8:=(z5c_ k m).getD []
theorem zg4_ {k:Nat} (hk:KK≤k) {m:Int} (h:m≤9223372036854775807):z5c_ k m=some (tM k m):=by
 obtain ⟨t,ht⟩:=zts_ hk h
 unfold tM
 rw [ht]; rfl
def mkL {α:Type} (f:α→Int→α×Int):List α→Int→List α×Int
 | [],m=>([],m)
 | x::l,m=>((f x m).1::(mkL f l (f x m).2).1,(mkL f l (f x m).2).2)
theorem za8_ {α:Type} (f:α→Int→α×Int):∀ (l:List α) (m:Int),(mkL f l m).1.length=l.length
 | [],_=>rfl
 | x::l,m=>by simp [mkL,za8_ f l]
theorem zjt_ {α:Type} {f:α→Int→α×Int} {c:α→Nat} (hc:∀ x m,(f x m).2=m+(c x:Int)):∀ (l:List α) (m:Int),(mkL f l m).2=m+(sumL c l:Int)
 | [],m=>by simp [mkL,z7q_]
 | x::l,m=>by
  have h1:=z3p_ c x l
  show (mkL f l (f x m).2).2=_
  rw [zjt_ hc l,hc]; omega
theorem zju_ {α:Type} {f:α→Int→α×Int}:∀ (l r:List α) (m:Int),(mkL f (l++r) m).1=(mkL f l m).1++(mkL f r (mkL f l m).2).1
 | [],r,m=>rfl
 | x::l,r,m=>by simp [mkL,zju_ l r]
theorem z6g_ {α Q R:Type} {f:α→Int→α×Int} {c:α→Nat} (hc:∀ x m,(f x m).2=m+(c x:Int)) (xs:List α) {m0 B:Int} (hB:m0+(sumL c xs:Int)≤B) {S:List α→Q} {L:Nat→Int→Int→Q→R} {G:R}
  (h1:∀ n (i:Nat) m l y,l.length=xs.length→l[i]?=some y→y∈xs→m0≤m→m+(c y:Int)≤B→(i:Int)<l.length→i<l.length→L (n+1) m (i:Int) (S l)=L n (m+(c y:Int)) ((i+1:Nat):Int) (S (l.set i (f y m).1)))
  (h2:∀ n l,l=(mkL f xs m0).1→l.length=xs.length→L (n+1) (m0+(sumL c xs:Int)) (xs.length:Int) (S l)=G) {n:Nat} (hn:xs.length<n):L n m0 0 (S xs)=G:=by
 have main:∀ (post pre:List α) (n:Nat),xs=pre++post→post.length<n→L n (m0+(sumL c pre:Int)) (pre.length:Int) (S ((mkL f pre m0).1++post))=G:=by
  intro post
  induction post with
  | nil =>
   intro pre n hx hn
   obtain ⟨m,rfl⟩:∃ m,n=m+1:=⟨n-1,by simp at hn; omega⟩
   rw [List.append_nil] at hx ⊢
   subst hx
   exact h2 m _ rfl (za8_ f _ _)
  | cons x post ih =>
   intro pre n hx hn
   obtain ⟨m,rfl⟩:∃ m,n=m+1:=⟨n-1,by simp at hn; omega⟩
   have hl:(mkL f pre m0).1.length=pre.length:=za8_ f _ _
   have hs:sumL c xs=sumL c pre+(c x+sumL c post):=by rw [hx,zg3_,z3p_]
   rw [h1 m pre.length (m0+(sumL c pre:Int)) ((mkL f pre m0).1++x::post) x (by rw [hx]; simp [hl]) (by rw [List.getElem?_append_right (by omega),hl]; simp) (by rw [hx]; simp) (by omega) (by omega) (by simp [hl]; omega) (by simp [hl])]
   have:=ih (pre++[x]) m (by rw [hx]; simp) (by simp at hn; omega)
   have e1:((mkL f pre m0).1++x::post).set pre.length (f x (m0+(sumL c pre:Int))).1=(mkL f (pre++[x]) m0).1++post:=by
    rw [List.set_append_right _ _ (by omega),hl,Nat.sub_self,List.set_cons_zero,zju_,zjt_ hc]
    simp [mkL]
   have e2:m0+(sumL c pre:Int)+(c x:Int)=m0+(sumL c (pre++[x]):Int):=by rw [zg3_,z3p_,z7q_]; omega
   rw [e1,e2]
   rw [List.length_append] at this
   simpa using this
 have:=main xs [] n rfl hn
 simpa [z7q_,mkL] using this
theorem ztt_ {α R:Type} {f:α→Int→α×Int} {c:α→Nat} (hc:∀ x m,(f x m).2=m+(c x:Int)) (xs:List α) {m0 B:Int} (hB:m0+(sumL c xs:Int)≤B) {L:Nat→Int→Int→R} {G:R}
  (h1:∀ n (i:Nat) m y,(mkL f xs m0).1[i]?=some (f y m).1→y∈xs→m0≤m→m+(c y:Int)≤B→(i:Int)<(mkL f xs m0).1.length→i<(mkL f xs m0).1.length→L (n+1) m (i:Int)=L n (m+(c y:Int)) ((i+1:Nat):Int))
  (h2:∀ n,L (n+1) (m0+(sumL c xs:Int)) ((mkL f xs m0).1.length:Int)=G) {n:Nat} (hn:xs.length<n):L n m0 0=G:=by
 have hlen:(mkL f xs m0).1.length=xs.length:=za8_ f _ _
 have main:∀ (post pre:List α) (n:Nat),xs=pre++post→post.length<n→L n (m0+(sumL c pre:Int)) (pre.length:Int)=G:=by
  intro post
  induction post with
  | nil =>
   intro pre n hx hn
   obtain ⟨m,rfl⟩:∃ m,n=m+1:=⟨n-1,by simp at hn; omega⟩
   rw [List.append_nil] at hx
   have:=h2 m
   rw [hlen] at this
   rw [← hx]; exact this
  | cons x post ih =>
   intro pre n hx hn
   obtain ⟨m,rfl⟩:∃ m,n=m+1:=⟨n-1,by simp at hn; omega⟩
   have hl:(mkL f pre m0).1.length=pre.length:=za8_ f _ _
   have hs:sumL c xs=sumL c pre+(c x+sumL c post):=by rw [hx,zg3_,z3p_]
   have hlx:pre.length<xs.length:=by rw [hx]; simp
   have hg:(mkL f xs m0).1[pre.length]?=some (f x (m0+(sumL c pre:Int))).1:=by
    rw [hx,zju_,List.getElem?_append_right (by omega),hl,Nat.sub_self,zjt_ hc]
    rfl
   rw [h1 m pre.length (m0+(sumL c pre:Int)) x hg (by rw [hx]; simp) (by omega) (by omega) (by omega) (by omega)]
   have:=ih (pre++[x]) m (by rw [hx]; simp) (by simp at hn; omega)
   have e2:m0+(sumL c pre:Int)+(c x:Int)=m0+(sumL c (pre++[x]):Int):=by rw [zg3_,z3p_,z7q_]; omega
   rw [e2]
   rw [List.length_append] at this
   simpa using this
 have:=main xs [] n rfl hn
 simpa [z7q_] using this
theorem zg5_ {α:Type}:∀ l:List α,sumL (fun _=>1) l=l.length
 | []=>rfl
 | x::l=>by rw [z3p_,zg5_ l,List.length_cons]; omega
abbrev Prb:=Int×List UInt8×List UInt8
noncomputable def mkPb (k:Nat) (_:Prb) (m:Int):Prb×Int:=((m,tM k (m+1),tM k (m+1+1)),m+((3:Nat):Int))
theorem zo3_ (k:Nat) (x:Prb) (m:Int):(mkPb k x m).2=m+(((fun _:Prb=>3) x:Nat):Int):=rfl
theorem zjv_ {α:Type}:∀ l:List α,sumL (fun _=>3) l=3*l.length
 | []=>rfl
 | x::l=>by rw [z3p_,zjv_ l,List.length_cons]; omega
theorem ztu_ {k:Nat} (hk:KK≤k) {L:List Prb} {m:Int} (h0:0≤m) (h1:m+((3*L.length:Nat):Int)≤100000000000000000) (hL:L.length≤1000000000000) :
  zbh_ k m L=some ((m+((3*L.length:Nat):Int),()),((mkL (mkPb k) L m).1,()),()):=by
 have hK:=zj_
 rw [← zjv_] at h1 ⊢
 unfold zbh_
 refine z6g_ (zo3_ k) L (m0:=m) (B:=100000000000000000) h1 (S:=fun l=>l) (L:=fun n m i q=>z9f_ k n m i q (fun k_11 q_12=>some ((k_11,()),(q_12,()),()))) ?_ ?_ (n:=k) (by omega)
 ·intro n i m' l y hll hg hy m0 m1 hlt hlt'
  have hw:=zi_ (i:=i) (by omega)
  have w1:z0_ (m'+1)=m'+1:=w_id (by omega) (by omega)
  have w2:z0_ (m'+1+1)=m'+1+1:=w_id (by omega) (by omega)
  have w3:z0_ (m'+1+1+1)=m'+((3:Nat):Int):=by rw [w_id (by omega) (by omega)]; omega
  simp only [z9f_,hlt,hlt',decide_true,if_true,Option.bind_some,Int.natCast_nonneg,Int.toNat_natCast,and_self,hg,List.length_set,List.getElem?_set_self hlt',w1,w2,w3,zg4_ hk (show m'+1≤9223372036854775807 by omega),zg4_ hk (show m'+1+1≤9223372036854775807 by omega),List.set_set,hw,mkPb]
 ·intro n l hl2 hll
  have:¬ (L.length:Int)<(l.length:Int):=by omega
  simp only [z9f_,this,decide_false,Bool.false_eq_true,if_false]
  rw [hl2]
theorem ztv_ {k:Nat} (hk:KK≤k) {L:List Prb} {m:Int} (h0:0≤m) (h1:m+((3*L.length:Nat):Int)≤100000000000000000) (hL:L.length≤1000000000000) :
  z9h_ k (mkL (mkPb k) L m).1 m=some (m+((3*L.length:Nat):Int)):=by
 have hK:=zj_
 rw [← zjv_] at h1 ⊢
 unfold z9h_
 refine ztt_ (zo3_ k) L (m0:=m) (B:=100000000000000000) h1 (L:=fun n m' i=>z9g_ k n (mkL (mkPb k) L m).1 m' i fun k_6=>some k_6) ?_ ?_ (n:=k) (by omega)
 ·intro n i m' y hg hy m0 m1 hlt hlt'
  have hw:=zi_ (i:=i) (by rw [za8_] at hlt'; omega)
  have w1:z0_ (m'+1)=m'+1:=w_id (by omega) (by omega)
  have w2:z0_ (m'+1+1)=m'+1+1:=w_id (by omega) (by omega)
  have w3:z0_ (m'+1+1+1)=m'+((3:Nat):Int):=by rw [w_id (by omega) (by omega)]; omega
  simp only [z9g_,hlt,decide_true,if_true,Int.natCast_nonneg,Int.toNat_natCast,hg,Option.bind_some,w1,w2,w3,zg4_ hk (show m'+1≤9223372036854775807 by omega),zg4_ hk (show m'+1+1≤9223372036854775807 by omega),mkPb,Bool.not_true,Bool.false_eq_true,if_false,hw]
 ·intro n
  simp only [z9g_,Int.lt_irrefl,decide_false,Bool.false_eq_true,if_false]
theorem ztw_ {k:Nat} (hk:KK≤k) {L:List Prb} (hL:L.length≤1000000000):∃ (m:Int) (q:List Prb),zbh_ k 1 L=some ((m,()),(q,()),())∧z9h_ k q 1=some m∧¬ m<0 :=
 ⟨_,_,ztu_ hk (by omega) (by omega) (by omega),ztv_ hk (by omega) (by omega) (by omega),by omega⟩
def lexB:List Int→List Int→Bool
 | x::a,y::b=>if x=y then lexB a b else decide (x<y)
 | _,_=>false
def befS (a b:List Int):Bool:=decide (a.length<b.length)||(decide (a.length=b.length)&&lexB a b)
theorem zo4_:∀ a:List Int,lexB a a=false
 | []=>rfl
 | x::a=>by simp [lexB,zo4_ a]
theorem zo5_:∀ a b c:List Int,a.length=b.length→b.length=c.length→lexB a b=true→lexB b c=true→lexB a c=true
 | [],_,_,_,_,h,_=>by simp [lexB] at h
 | _::_,[],_,_,_,h,_=>by simp [lexB] at h
 | _::_,_::_,[],_,_,_,h=>by simp [lexB] at h
 | x::a,y::b,z::c,h1,h2,h3,h4=>by
  simp only [lexB] at h3 h4 ⊢
  by_cases c1:x=y
  ·subst c1
   rw [if_pos rfl] at h3
   by_cases c2:x=z
   ·rw [if_pos c2] at h4 ⊢
    exact zo5_ a b c (by simpa using h1) (by simpa using h2) h3 h4
   ·rw [if_neg c2] at h4 ⊢; exact h4
  ·rw [if_neg c1,decide_eq_true_eq] at h3
   by_cases c2:y=z
   ·subst c2; rw [if_neg c1,decide_eq_true_eq]; exact h3
   ·rw [if_neg c2,decide_eq_true_eq] at h4
    rw [if_neg (by omega),decide_eq_true_eq]; omega
theorem zg6_ (a:List Int):befS a a=false:=by unfold befS; simp [zo4_]
theorem zbr_ {a b c:List Int} (h1:befS a b=true) (h2:befS b c=true):befS a c=true:=by
 unfold befS at *
 simp only [Bool.or_eq_true,Bool.and_eq_true,decide_eq_true_eq] at *
 rcases h1 with h1 | ⟨e1,h1⟩
 ·rcases h2 with h2 | ⟨e2,h2⟩
  ·left; omega
  ·left; omega
 ·rcases h2 with h2 | ⟨e2,h2⟩
  ·left; omega
  ·exact .inr ⟨by omega,zo5_ a b c e1 e2 h1 h2⟩
theorem ztx_ {a b:List Int} (h:befS a b=true):befS b a=false:=by
 cases h':befS b a
 ·rfl
 ·have:=zbr_ h h'
  rw [zg6_] at this; cases this
def cmpL:List Int→List Int→Int
 | x::a,y::b=>if cI x y=0 then cmpL a b else cI x y
 | _::_,[]=>1
 | [],_::_=>-1
 | [],[]=>0
def z4q_ (a b:List Int):Int:=if cI (a.length:Int) (b.length:Int)=0 then cmpL a b else cI (a.length:Int) (b.length:Int)
theorem z7r_ (x y:Int):cI x y=0↔x=y:=by
 unfold cI
 by_cases h1:x<y
 ·rw [if_pos h1]; constructor <;> intro h <;> omega
 ·rw [if_neg h1]
  by_cases h2:y<x
  ·rw [if_pos h2]; constructor <;> intro h <;> omega
  ·rw [if_neg h2]; constructor <;> intro h <;> omega
theorem zo6_ (x y:Int):cI x y<0↔x<y:=by
 unfold cI
 by_cases h1:x<y
 ·rw [if_pos h1]; constructor <;> intro h <;> omega
 ·rw [if_neg h1]
  by_cases h2:y<x
  ·rw [if_pos h2]; constructor <;> intro h <;> omega
  ·rw [if_neg h2]; constructor <;> intro h <;> omega
theorem zo7_:∀ a b:List Int,cmpL a b=0↔a=b
 | [],[]=>by simp [cmpL]
 | _::_,[]=>by simp [cmpL]
 | [],_::_=>by simp [cmpL]
 | x::a,y::b=>by
  unfold cmpL
  by_cases c:cI x y=0
  ·rw [if_pos c,zo7_ a b,(z7r_ x y).1 c]; simp
  ·rw [if_neg c]
   have:x≠y:=fun e=>c ((z7r_ x y).2 e)
   simp [c,this]
theorem zo8_:∀ a b:List Int,a.length=b.length→(cmpL a b<0↔lexB a b=true)
 | [],[],_=>by simp [cmpL,lexB]
 | _::_,[],h=>by simp at h
 | [],_::_,h=>by simp at h
 | x::a,y::b,h=>by
  unfold cmpL lexB
  by_cases c:cI x y=0
  ·rw [if_pos c,if_pos ((z7r_ x y).1 c)]
   exact zo8_ a b (by simpa using h)
  ·rw [if_neg c,if_neg (fun e=>c ((z7r_ x y).2 e)),zo6_,decide_eq_true_eq]
theorem zo9_ (a b:List Int):z4q_ a b=0↔a=b:=by
 unfold z4q_
 by_cases c:cI (a.length:Int) (b.length:Int)=0
 ·rw [if_pos c]; exact zo7_ a b
 ·rw [if_neg c]
  exact ⟨fun h=>absurd h c,fun h=>by rw [h] at c; exact absurd ((z7r_ _ _).2 rfl) c⟩
theorem zoa_ (a b:List Int):decide (z4q_ a b<0)=befS a b:=by
 rw [Bool.eq_iff_iff,decide_eq_true_eq]
 unfold z4q_ befS
 simp only [Bool.or_eq_true,Bool.and_eq_true,decide_eq_true_eq]
 by_cases c:cI (a.length:Int) (b.length:Int)=0
 ·have e:=(z7r_ _ _).1 c
  rw [if_pos c,zo8_ a b (by omega)]
  constructor
  ·intro h; exact .inr ⟨by omega,h⟩
  ·rintro (h | h)
   ·omega
   ·exact h.2
 ·have e:¬ (a.length:Int)=(b.length:Int):=fun e=>c ((z7r_ _ _).2 e)
  rw [if_neg c,zo6_]
  constructor
  ·intro h; left; omega
  ·rintro (h | h)
   ·omega
   ·omega
theorem zty_ (a b:List Int):decide (0≤z4q_ a b)=!befS a b:=by
 rw [← zoa_]
 by_cases h:z4q_ a b<0
 ·rw [decide_eq_true h,decide_eq_false (by omega)]; rfl
 ·rw [decide_eq_false h,decide_eq_true (by omega)]; rfl
theorem ztz_ {k:Nat} (hk:KK≤k) {a b:List Int} (ha:a.length≤1000000000) (hb:b.length≤1000000000):zfu_ k a b=some (cmpL a b):=by
 have hK:=zj_
 unfold zfu_
 have key:∀ (d n i:Nat),a.length-i=d→d<n→z9z_ k n a b a (a.length:Int) (i:Int) (fun s_4 s_5=>(if (decide ((List.length s_4:Int)<(List.length s_5:Int)))=true then some (-1) else some 0))=(if i≤a.length then some (if a.length≤i then (if i<b.length then -1 else 0) else cmpL (a.drop i) (b.drop i)) else some (if a.length<b.length then -1 else 0)):=by
  intro d
  induction d with
  | zero =>
   intro n i hd hn
   obtain ⟨n,rfl⟩:∃ m,n=m+1:=⟨n-1,by omega⟩
   have:¬ (i:Int)<(a.length:Int):=by omega
   simp only [z9z_,this,decide_false,Bool.false_eq_true,if_false]
   by_cases h1:i≤a.length
   ·have:i=a.length:=by omega
    subst this
    rw [if_pos (Nat.le_refl _),if_pos (Nat.le_refl _)]
    by_cases h2:a.length<b.length
    ·rw [decide_eq_true (by omega),if_pos rfl,if_pos h2]
    ·rw [decide_eq_false (by omega),if_neg (by simp),if_neg h2]
   ·rw [if_neg h1]
    by_cases h2:a.length<b.length
    ·rw [decide_eq_true (by omega),if_pos rfl,if_pos h2]
    ·rw [decide_eq_false (by omega),if_neg (by simp),if_neg h2]
  | succ d ih =>
   intro n i hd hn
   obtain ⟨n,rfl⟩:∃ m,n=m+1:=⟨n-1,by omega⟩
   have hi:i<a.length:=by omega
   have hlt:(i:Int)<(a.length:Int):=by omega
   have hw:=zi_ (i:=i) (by omega)
   have da:a.drop i=a[i]::a.drop (i+1):=List.drop_eq_getElem_cons hi
   rw [if_pos (by omega),if_neg (by omega),da]
   simp only [z9z_,hlt,decide_true,if_true,Int.natCast_nonneg,Int.toNat_natCast,List.getElem?_eq_getElem hi,Option.bind_some,hw]
   by_cases hb2:i<b.length
   ·have db:b.drop i=b[i]::b.drop (i+1):=List.drop_eq_getElem_cons hb2
    rw [db,decide_eq_false (by omega),if_neg (by simp),List.getElem?_eq_getElem hb2]
    simp only [Option.bind_some,zjk_]
    unfold cmpL
    by_cases c:cI a[i] b[i]=0
    ·rw [decide_eq_true c,if_neg (by simp),if_pos c,ih n (i+1) (by omega) (by omega),if_pos (by omega)]
     by_cases h3:a.length≤i+1
     ·rw [if_pos h3,List.drop_of_length_le (l:=a) (by omega)]
      by_cases h4:i+1<b.length
      ·rw [if_pos h4,List.drop_eq_getElem_cons h4]; rfl
      ·rw [if_neg h4,List.drop_of_length_le (l:=b) (by omega)]; rfl
     ·rw [if_neg h3]
    ·rw [decide_eq_false c,if_pos (by simp),if_neg c]
   ·rw [List.drop_of_length_le (l:=b) (by omega),decide_eq_true (by omega),if_pos rfl]
    rfl
 have h0:=key a.length k 0 (by omega) (by omega)
 have hz:((0:Nat):Int)=0:=rfl
 rw [hz] at h0
 rw [h0,if_pos (Nat.zero_le _),List.drop_zero,List.drop_zero]
 by_cases c:a.length≤0
 ·have:a=[]:=List.length_eq_zero_iff.1 (by omega)
  subst this
  rw [if_pos c]
  cases b with
  | nil=>rfl
  | cons y b=>rw [if_pos (by simp)]; rfl
 ·rw [if_neg c]
theorem zg7_ {k:Nat} (hk:KK≤k) {a b:List Int} (ha:a.length≤1000000000) (hb:b.length≤1000000000):z7k_ k a b=some (z4q_ a b):=by
 unfold z7k_ z4q_
 rw [zti_,ztz_ hk ha hb]
 simp only [Option.bind_some,zjl_ hk]
theorem zu0_ {k:Nat} (hk:KK≤k) {a b:List Int} (ha:a.length≤1000000000):zf4_ k a b=some (befS a b):=by
 have hK:=zj_
 unfold zf4_ befS
 by_cases hl:a.length=b.length
 ·rw [decide_eq_true (show (a.length:Int)=(b.length:Int) by omega),if_neg (by simp),decide_eq_false (by omega),decide_eq_true hl,Bool.false_or,Bool.true_and]
  have key:∀ (d n i:Nat),a.length-i=d→d<n→z9i_ k n a b (i:Int) (some false)=some (lexB (a.drop i) (b.drop i)):=by
   intro d
   induction d with
   | zero =>
    intro n i hd hn
    obtain ⟨n,rfl⟩:∃ m,n=m+1:=⟨n-1,by omega⟩
    have:¬ (i:Int)<(a.length:Int):=by omega
    simp only [z9i_,this,decide_false,Bool.false_eq_true,if_false]
    rw [List.drop_of_length_le (l:=a) (by omega)]; rfl
   | succ d ih =>
    intro n i hd hn
    obtain ⟨n,rfl⟩:∃ m,n=m+1:=⟨n-1,by omega⟩
    have hi:i<a.length:=by omega
    have hib:i<b.length:=by omega
    have hlt:(i:Int)<(a.length:Int):=by omega
    have hw:=zi_ (i:=i) (by omega)
    have da:a.drop i=a[i]::a.drop (i+1):=List.drop_eq_getElem_cons hi
    have db:b.drop i=b[i]::b.drop (i+1):=List.drop_eq_getElem_cons hib
    rw [da,db]
    unfold lexB
    simp only [z9i_,hlt,decide_true,if_true,Int.natCast_nonneg,Int.toNat_natCast,List.getElem?_eq_getElem hi,List.getElem?_eq_getElem hib,Option.bind_some,hw]
    by_cases c:a[i]=b[i]
    ·rw [decide_eq_true c,if_neg (by simp),if_pos c]
     exact ih n (i+1) (by omega) (by omega)
    ·rw [decide_eq_false c,if_pos (by simp),if_neg c]
  exact key a.length k 0 (by omega) (by omega)
 ·rw [decide_eq_false (show ¬ (a.length:Int)=(b.length:Int) by omega),if_pos (by simp),decide_eq_false hl,Bool.false_and,Bool.or_false]
  exact congrArg some (decide_eq_decide.2 (by omega))
theorem zu1_ {i j:Nat} (h:i+j<4611686018427387904):z0_ (Int.fdiv (z71_ (z0_ ((i:Int)+(j:Int)))) (2 ^ 1))=(((i+j) / 2:Nat):Int):=by
 rw [w_id (x:=(i:Int)+j) (by omega) (by omega)]
 have hu:z71_ ((i:Int)+(j:Int))=(i:Int)+j:=by unfold z71_ IntKind.wrap; simp [IntKind.bits,IntKind.signed]; omega
 rw [hu,Int.fdiv_eq_ediv_of_nonneg _ (by omega),w_id (by omega) (by omega)]
 omega
abbrev Cx:=List (List Int)
def z1q_ (s:List Int) (k:Nat):List Int:=s.take k++s.drop (k+1)
theorem zjw_ {s:List Int} {k:Nat} (h:k<s.length):(z1q_ s k).length=s.length-1:=by
 unfold z1q_; rw [List.length_append,List.length_take,List.length_drop]; omega
structure CxP (c:Cx):Prop where
 len:c.length≤48
 simp:∀ s∈c,SimpP s
 ord:c.Pairwise (fun a b=>befS a b=true)
 face:∀ s∈c,1<s.length→∀ k,k<s.length→z1q_ s k∈c
open Classical in
noncomputable def cxB (c:Cx):Bool:=decide (CxP c)
theorem z6h_ {c:Cx}:cxB c=true↔CxP c:=by unfold cxB; simp
def z2m_ (c:Cx):Prop:=c.length≤1048576∧∀ s∈c,s.length≤1048576
theorem zob_ {s:List Int} (hs:s.length≤1048576) {k:Nat} (h:k<s.length):z7b_ s (k:Int)=some (z1q_ s k):=by
 have hL:=z2k_
 have hw:=zi_ (i:=k) (by omega)
 have b1:(k:Int)≤(s.length:Int):=by omega
 have b2:((k+1:Nat):Int)≤(s.length:Int):=by omega
 unfold z7b_ zf5_
 have hdr:(s.drop (k+1)).take (s.length-(k+1))=s.drop (k+1):=List.take_of_length_le (by rw [List.length_drop]; exact Nat.le_refl _)
 simp only [Int.natCast_nonneg,Int.le_refl,b1,and_self,if_true,Int.toNat_natCast]
 rw [if_pos (by simp only [List.length_nil,List.length_take]; omega)]
 simp only [Option.bind_some,hw,Int.natCast_nonneg,Int.toNat_natCast,b2,Int.le_refl,and_self,if_true,hdr]
 rw [if_pos (by simp only [List.length_take,List.length_drop]; omega)]
 rfl
def posC (c:Cx) (s:List Int):Nat:=c.findIdx (fun y=>decide (y=s))
theorem z5l_ {c:Cx} {s:List Int}:posC c s<c.length↔s∈c:=by
 unfold posC
 rw [List.findIdx_lt_length]
 constructor
 ·rintro ⟨x,hx,h⟩; rw [← of_decide_eq_true h]; exact hx
 ·intro h; exact ⟨s,h,decide_eq_true rfl⟩
theorem zoc_ {c:Cx} {s:List Int} (h:s∈c):c[posC c s]?=some s:=by
 have hl:=z5l_.2 h
 rw [List.getElem?_eq_getElem hl]
 have:decide (c[posC c s]=s)=true:=List.findIdx_getElem (xs:=c) (p:=fun y=>decide (y=s)) (w:=hl)
 rw [of_decide_eq_true this]
theorem zu2_ {k:Nat} (hk:KK≤k) {a b:List Int} (ha:a.length≤1000000000):zf6_ k a b=some (decide (a=b)):=by
 have hK:=zj_
 unfold zf6_
 by_cases hl:a.length=b.length
 ·rw [decide_eq_true (show (a.length:Int)=(b.length:Int) by omega),if_neg (by simp)]
  refine z73_ (L:=fun n i=>z9j_ k n a b i (some true)) a b hl ?_ ?_ (n:=k) (by omega)
  ·intro n i x y hx hy hlt
   have hw:=zi_ (i:=i) (by omega)
   by_cases e:x=y <;> simp [z9j_,hlt,hx,hy,hw,e]
  ·intro n
   simp [z9j_]
 ·have h2:a≠b:=fun e=>hl (by rw [e])
  rw [decide_eq_false (show ¬ (a.length:Int)=(b.length:Int) by omega),if_pos (by simp),decide_eq_false h2]
theorem zod_ {k:Nat} (hk:KK≤k) {c:Cx} (hc:z2m_ c) (s:List Int):zbj_ k c s=some (if posC c s<c.length then ((posC c s:Nat):Int) else -1):=by
 have hK:=zj_
 obtain ⟨h1,h2⟩:=hc
 unfold zbj_
 rw [z8m_ (L:=fun m i=>z9k_ k m c s i (some (-1))) (p:=fun y=>decide (y=s)) c ?_ ?_ (n:=k) (by omega)]
 ·unfold idxP posC
  cases hf:c.findIdx? (fun y=>decide (y=s)) with
  | some i =>
   obtain ⟨hlt,hp⟩:=List.findIdx?_eq_some_iff_findIdx_eq.1 hf
   rw [hp,if_pos hlt]
  | none =>
   rw [List.findIdx?_eq_none_iff] at hf
   have:¬ c.findIdx (fun y=>decide (y=s))<c.length:=fun h=>by
    obtain ⟨x,hx,h2⟩:=List.findIdx_lt_length.1 h
    rw [hf x hx] at h2; cases h2
   rw [if_neg this]
 ·intro m i x hi hlt
  have hw:=zi_ (i:=i) (by omega)
  have hxl:=h2 x (List.mem_of_getElem? hi)
  simp only [z9k_,hlt,decide_true,if_true,Int.natCast_nonneg,Int.toNat_natCast,hi,Option.bind_some,hw,zu2_ hk (show x.length≤1000000000 by omega)]
 ·intro m
  simp [z9k_]
theorem zoe_ (c:Cx) (s:List Int):decide ((if posC c s<c.length then ((posC c s:Nat):Int) else -1)<0)=!decide (s∈c):=by
 by_cases h:s∈c
 ·rw [if_pos (z5l_.2 h),decide_eq_false (by omega),decide_eq_true h]; rfl
 ·rw [if_neg (fun h2=>h (z5l_.1 h2)),decide_eq_false h]; rfl
theorem zu3_ {k:Nat} (hk:KK≤k) {a b:List Int} (ha:a.length≤1048576) (hb:b.length≤1048576):zfx_ k [a,b]=some (a++b):=by
 have hK:=zj_
 have hL:=z2k_
 obtain ⟨n,rfl⟩:∃ n,k=n+3:=⟨k-3,by omega⟩
 have w1:z0_ (0+(a.length:Int))=(a.length:Int):=by rw [w_id (by omega) (by omega)]; omega
 have w2:z0_ ((a.length:Int)+(b.length:Int))=((a.length+b.length:Nat):Int):=by rw [w_id (by omega) (by omega)]; omega
 have w3:z0_ ((0:Int)+1)=1:=w_id (by omega) (by omega)
 have w4:z0_ ((1:Int)+1)=2:=w_id (by omega) (by omega)
 have n1:¬ ((a.length:Int)<0):=by omega
 have n2:¬ (((a.length+b.length:Nat):Int)<0):=by omega
 have l1:(((a.length+b.length:Nat):Int).toNat)*8≤LIM:=by simp only [Int.toNat_natCast]; omega
 have l2:a.length*8≤LIM:=by omega
 have l3:(a.length+b.length)*8≤LIM:=by omega
 unfold zfx_
 simp only [zfv_,List.length_cons,List.length_nil,Nat.zero_add,Nat.reduceAdd,show ((2:Nat):Int)=2 from rfl,w1,w2,w3,w4]
 simp only [znr_,zfw_,w1,w2,w3,w4,n1,n2,true_and,l1,l2,l3,Int.natCast_nonneg,List.nil_append,decide_false,Bool.false_eq_true,if_false,if_true,Option.bind_some,and_self,List.getElem?_cons_zero,List.getElem?_cons_succ,show decide ((0:Int)<2)=true from rfl,show decide ((1:Int)<2)=true from rfl,show decide ((2:Int)<2)=false from rfl,show (0:Int).toNat=0 from rfl,show (1:Int).toNat=1 from rfl,show (0:Int)≤0 from Int.le_refl _,show (0:Int)≤1 by omega,List.length_cons,List.length_nil,Nat.zero_add,Nat.reduceAdd,show ((2:Nat):Int)=2 from rfl]
def z1h_ (s:List Int):Cx:=if 1<s.length then (List.range s.length).map (z1q_ s) else []
theorem zof_ {k:Nat} (hk:KK≤k) {s:List Int} (hs:s.length≤1048576):za0_ k s=some (z1h_ s):=by
 have hK:=zj_
 have hL:=z2k_
 unfold za0_
 have:=z2t_ (α:=Nat) (A:=Cx) (L:=fun n i q=>z7l_ k n s (s.length:Int) i q (fun q_3=>some q_3)) (I:=fun pre q=>q=(if 1<s.length then (List.range pre.length).map (z1q_ s) else [])) (G:=fun _ _=>some (z1h_ s)) (List.range s.length) ?_ ?_ k (by simp; omega) [] (by simp)
 ·exact this
 ·intro n pre x post q hx hq ih hg hlt
  rw [List.length_range] at hlt
  have hpl:pre.length<s.length:=by omega
  have hw:=zi_ (i:=pre.length) (by omega)
  simp only [z7l_,hlt,decide_true,if_true]
  by_cases c:1<s.length
  ·rw [if_pos c] at hq
   have b1:(pre.length:Int)≤(s.length:Int):=by omega
   have b2:((pre.length+1:Nat):Int)≤(s.length:Int):=by omega
   have hdr:(s.drop (pre.length+1)).take (s.length-(pre.length+1))=s.drop (pre.length+1):=List.take_of_length_le (by rw [List.length_drop]; exact Nat.le_refl _)
   have hcc:=zu3_ hk (a:=s.take pre.length) (b:=s.drop (pre.length+1)) (by rw [List.length_take]; omega) (by rw [List.length_drop]; omega)
   have hlim:(q.length+1)*24≤LIM:=by rw [hq,List.length_map,List.length_range]; omega
   rw [decide_eq_true (by omega),if_pos rfl]
   simp only [Int.natCast_nonneg,Int.le_refl,Int.toNat_natCast,b1,hw,b2,and_self,if_true,hdr,hcc,Option.bind_some,List.length_singleton,hlim]
   refine ih _ ?_
   rw [if_pos c,hq,List.length_append,List.length_singleton,List.range_succ,List.map_append]
   rfl
  ·rw [decide_eq_false (by omega),if_neg (by simp),hw]
   exact ih _ (by rw [if_neg c] at hq ⊢; exact hq)
 ·intro n q hq
  rw [List.length_range] at hq ⊢
  simp only [z7l_,Int.lt_irrefl,decide_false,Bool.false_eq_true,if_false,hq]
  rfl
theorem zbs_ {s f:List Int}:f∈z1h_ s↔1<s.length∧∃ k,k<s.length∧f=z1q_ s k:=by
 unfold z1h_
 by_cases c:1<s.length
 ·rw [if_pos c,List.mem_map]
  constructor
  ·rintro ⟨k,hk,rfl⟩; exact ⟨c,k,List.mem_range.1 hk,rfl⟩
  ·rintro ⟨_,k,hk,rfl⟩; exact ⟨k,List.mem_range.2 hk,rfl⟩
 ·rw [if_neg c]; simp [c]
def lowC (c:Cx) (s:List Int):Nat:=c.findIdx (fun y=>!befS y s)
theorem zu4_ (c:Cx) (s:List Int):lowC c s≤c.length:=List.findIdx_le_length
theorem zog_ {c:Cx} {s:List Int} {i:Nat} (h:i<lowC c s) (hi:i<c.length):befS c[i] s=true:=by
 have:=List.not_of_lt_findIdx h
 simpa using this
theorem zoh_ {c:Cx} {s:List Int} (hs:c.Pairwise (fun a b=>befS a b=true)) {i:Nat} (h:lowC c s≤i) (hi:i<c.length):befS c[i] s=false:=by
 have hp:lowC c s<c.length:=by omega
 have h0:befS c[lowC c s] s=false:=by
  have:=List.findIdx_getElem (xs:=c) (p:=fun y=>!befS y s) (w:=hp)
  simp only [Bool.not_eq_true'] at this
  exact this
 by_cases e:i=lowC c s
 ·subst e; exact h0
 ·cases hb:befS c[i] s
  ·rfl
  ·have h1:=List.pairwise_iff_getElem.1 hs (lowC c s) i hp hi (by omega)
   rw [zbr_ h1 hb] at h0; cases h0
theorem zu5_ {c:Cx} (hs:c.Pairwise (fun a b=>befS a b=true)) {s:List Int} (h:s∈c):lowC c s=posC c s:=by
 have hl:=z5l_.2 h
 have hg:=zoc_ h
 rw [List.getElem?_eq_getElem hl] at hg
 have hg:=Option.some.inj hg
 have h1:¬ posC c s<lowC c s:=fun q=>by have:=zog_ q hl; rw [hg,zg6_] at this; cases this
 have h2:¬ lowC c s<posC c s:=fun q=>by
  have h3:=List.pairwise_iff_getElem.1 hs (lowC c s) (posC c s) (by omega) hl q
  rw [hg] at h3
  rw [zoh_ hs (Nat.le_refl _) (by omega)] at h3; cases h3
 omega
theorem zu6_ {k:Nat} (hk:KK≤k) {c:Cx} (hc:z2m_ c) (hs:c.Pairwise (fun a b=>befS a b=true)) {s:List Int} (hsl:s.length≤1048576) {e:Cx→List Int→Unit→Int→Int→Option (Int×Bool)} :
  ∀ (d:Nat) (i j n:Nat),j-i≤d→d<n→i≤lowC c s→lowC c s≤j→j≤c.length→z6d_ k n c s () (c.length:Int) (i:Int) (j:Int) e=e c s () (c.length:Int) ((lowC c s:Nat):Int):=by
 obtain ⟨hcl,hce⟩:=hc
 intro d
 induction d with
 | zero =>
  intro i j n h1 h2 h3 h4 h5
  obtain ⟨n,rfl⟩:∃ m,n=m+1:=⟨n-1,by omega⟩
  have hlt:¬ (i:Int)<(j:Int):=by omega
  simp only [z6d_,hlt,decide_false,Bool.false_eq_true,if_false]
  rw [show i=lowC c s by omega]
 | succ d ih =>
  intro i j n h1 h2 h3 h4 h5
  obtain ⟨n,rfl⟩:∃ m,n=m+1:=⟨n-1,by omega⟩
  by_cases hij:i<j
  ·have hlt:(i:Int)<(j:Int):=by omega
   have hm:(i+j) / 2<c.length:=by omega
   have hw:=zi_ (i:=(i+j) / 2) (by omega)
   have hml:=hce c[(i+j) / 2] (List.getElem_mem hm)
   simp only [z6d_,hlt,decide_true,if_true,zu1_ (show i+j<4611686018427387904 by omega),Int.natCast_nonneg,Int.toNat_natCast,List.getElem?_eq_getElem hm,Option.bind_some,zg7_ hk (show (c[(i+j) / 2]).length≤1000000000 by omega) (show s.length≤1000000000 by omega),zoa_,hw]
   by_cases hb:befS c[(i+j) / 2] s=true
   ·rw [if_pos hb]
    refine ih _ _ _ (by omega) (by omega) ?_ h4 h5
    by_cases hq:lowC c s≤(i+j) / 2
    ·rw [zoh_ hs hq hm] at hb; cases hb
    ·omega
   ·rw [if_neg hb]
    refine ih _ _ _ (by omega) (by omega) h3 ?_ (by omega)
    by_cases hq:(i+j) / 2<lowC c s
    ·exact absurd (zog_ hq hm) hb
    ·omega
  ·have hlt:¬ (i:Int)<(j:Int):=by omega
   simp only [z6d_,hlt,decide_false,Bool.false_eq_true,if_false]
   rw [show i=lowC c s by omega]
theorem zoi_ {k:Nat} (hk:KK≤k) {c:Cx} (hc:z2m_ c) (hs:c.Pairwise (fun a b=>befS a b=true)) {s:List Int} (hsl:s.length≤1048576):zbn_ k c s=some (if posC c s<c.length then ((posC c s:Nat):Int) else -1):=by
 have hK:=zj_
 have hcl:=hc.1
 have:=zu4_ c s
 unfold zbn_ zje_
 have h0:=zu6_ hk hc hs hsl (e:=fun x_3 target_4 cmp_5 n_6 i_7=>(if (decide (i_7<n_6))=true then (if 0≤i_7 then (x_3[i_7.toNat]?).bind fun y_8=>(z7k_ k y_8 target_4).bind fun r_9=>some (i_7,(decide (r_9=0))) else none) else some (i_7,false))) c.length 0 c.length k (by omega) (by omega) (by omega) (by omega) (by omega)
 rw [show ((0:Nat):Int)=0 from rfl] at h0
 rw [h0]
 by_cases h:s∈c
 ·have hp:=zu5_ hs h
  have hl:=z5l_.2 h
  have hg:=zoc_ h
  rw [hp,if_pos hl,decide_eq_true (by omega),if_pos rfl]
  simp only [Int.natCast_nonneg,if_true,Int.toNat_natCast,hg,Option.bind_some,zg7_ hk (show s.length≤1000000000 by omega) (show s.length≤1000000000 by omega)]
  have:z4q_ s s=0:=(zo9_ s s).2 rfl
  rw [this]; rfl
 ·rw [if_neg (fun q=>h (z5l_.1 q))]
  by_cases hl:lowC c s<c.length
  ·have hxl:=hc.2 c[lowC c s] (List.getElem_mem hl)
   rw [decide_eq_true (by omega),if_pos rfl]
   simp only [Int.natCast_nonneg,if_true,Int.toNat_natCast,List.getElem?_eq_getElem hl,Option.bind_some,zg7_ hk (show (c[lowC c s]).length≤1000000000 by omega) (show s.length≤1000000000 by omega)]
   have:¬ z4q_ c[lowC c s] s=0:=fun e=>h (by rw [← (zo9_ _ _).1 e]; exact List.getElem_mem hl)
   rw [decide_eq_false this]; rfl
  ·rw [decide_eq_false (by omega),if_neg (by simp)]; rfl
open Classical in
noncomputable def cxAt (c d:Cx) (i:Nat):Bool:=decide (∀ s,c[i]?=some s→SimpP s∧z48_ (fun a b=>befS a b=true) c i s∧(1<s.length→∀ k,k<s.length→z1q_ s k∈d))
open Classical in
theorem z2b_ {c d:Cx} {i:Nat} {s:List Int} (h:c[i]?=some s):cxAt c d i=true↔SimpP s∧z48_ (fun a b=>befS a b=true) c i s∧(1<s.length→∀ k,k<s.length→z1q_ s k∈d):=by
 unfold cxAt
 rw [decide_eq_true_eq]
 exact ⟨fun q=>q s h,fun q t ht=>by rw [h] at ht; cases ht; exact q⟩
open Classical in
theorem zu7_ {k:Nat} (hk:KK≤k) {c:Cx} (hc:z2m_ c):zf7_ k c=some (cxB c):=by
 have hK:=zj_
 obtain ⟨hcl,hce⟩:=hc
 unfold zf7_
 by_cases h48:c.length≤48
 ·rw [decide_eq_false (by omega),if_neg (by simp)]
  have:=z2l_ (L:=fun n i=>z44_ k n c i (some true)) (b:=c.length) (p:=fun i=>cxAt c c i) (r:=some false) (e:=some true) ?_ ?_ (n:=k) (by omega)
  ·rw [this]
   have e:(List.range c.length).all (fun i=>cxAt c c i)=true↔CxP c:=by
    rw [List.all_eq_true]
    constructor
    ·intro h
     have h':∀ i s,c[i]?=some s→SimpP s∧z48_ (fun a b=>befS a b=true) c i s∧(1<s.length→∀ k,k<s.length→z1q_ s k∈c):=fun i s hs=>(z2b_ hs).1 (h i (List.mem_range.2 (List.getElem?_eq_some_iff.1 hs).1))
     refine ⟨h48,fun s hs=>?_,?_,fun s hs=>?_⟩
     ·obtain ⟨i,hi⟩:=List.getElem?_of_mem hs
      exact (h' i s hi).1
     ·have:=zg1_ (R:=fun a b=>befS a b=true) (fun a b c=>zbr_) (l:=c) (m:=c.length) (fun j hj x hx=>(h' j x hx).2.1)
      rwa [List.take_length] at this
     ·obtain ⟨i,hi⟩:=List.getElem?_of_mem hs
      exact (h' i s hi).2.2
    ·intro h i hi
     rw [List.mem_range] at hi
     exact (z2b_ (List.getElem?_eq_getElem hi)).2 ⟨h.simp _ (List.getElem_mem hi),zjn_ h.ord (List.getElem?_eq_getElem hi),h.face _ (List.getElem_mem hi)⟩
   by_cases q:CxP c
   ·rw [if_pos (e.2 q),z6h_.2 q]
   ·rw [if_neg (fun h=>q (e.1 h))]
    congr 1
    symm
    rw [Bool.eq_false_iff,ne_eq,z6h_]; exact q
  ·intro n i hi
   have hlt:(i:Int)<(c.length:Int):=by omega
   have hw:=zi_ (i:=i) (by omega)
   have hg:c[i]?=some c[i]:=List.getElem?_eq_getElem hi
   have hsl:=hce c[i] (List.getElem_mem hi)
   have hin:z5d_ k k c (i:Int) c[i] 0 (fun c_5 i_6=>z44_ k n c_5 (z0_ (i_6+1)) (some true))=if (∀ k,1<(c[i]).length→k<(c[i]).length→z1q_ c[i] k∈c) then z44_ k n c ((i+1:Nat):Int) (some true) else some false:=by
    by_cases h1:1<(c[i]).length
    ·have:=z2l_ (L:=fun m j=>z5d_ k m c (i:Int) c[i] j (fun c_5 i_6=>z44_ k n c_5 (z0_ (i_6+1)) (some true))) (b:=(c[i]).length) (p:=fun j=>decide (z1q_ c[i] j∈c)) (r:=some false) (e:=z44_ k n c ((i+1:Nat):Int) (some true)) ?_ ?_ (n:=k) (by omega)
     ·rw [this]
      simp only [List.all_eq_true,List.mem_range,decide_eq_true_eq]
      by_cases q:∀ j,j<(c[i]).length→z1q_ c[i] j∈c
      ·rw [if_pos q,if_pos (fun j _ hj=>q j hj)]
      ·rw [if_neg q,if_neg (fun h=>q fun j hj=>h j h1 hj)]
     ·intro m j hj
      have hjlt:(j:Int)<((c[i]).length:Int):=by omega
      have hw2:=zi_ (i:=j) (by omega)
      simp only [z5d_,hjlt,decide_true,if_true,decide_eq_true (show (1:Int)<((c[i]).length:Int) by omega),zob_ hsl hj,Option.bind_some,zod_ hk ⟨hcl,hce⟩,zoe_,hw2]
      by_cases q:z1q_ c[i] j∈c
      ·rw [decide_eq_true q]; simp
      ·rw [decide_eq_false q]; simp
     ·intro m
      simp only [z5d_,Int.lt_irrefl,decide_false,Bool.false_eq_true,if_false,hw]
    ·rw [if_pos (fun j h=>absurd h h1)]
     obtain ⟨m,hm⟩:∃ m,k=m+1:=⟨k-1,by omega⟩
     have hn1:¬ (1:Int)<((c[i]).length:Int):=by omega
     conv=>lhs; arg 2; rw [hm]
     simp only [z5d_,hn1,decide_false,Bool.false_eq_true,if_false,hw]
     split <;> rfl
   simp only [z44_,hlt,decide_true,if_true,Int.natCast_nonneg,Int.toNat_natCast,hg,Option.bind_some,ztm_ hk (show (c[i]).length≤1000000000 by omega)]
   cases hsb:z6e_ c[i] with
   | false =>
    have:¬ cxAt c c i=true:=fun h=>by
     have:=z6f_.2 ((z2b_ hg).1 h).1
     rw [hsb] at this; cases this
    rw [if_neg this]; simp
   | true =>
    have hsp:=z6f_.1 hsb
    simp only [Bool.not_true,Bool.false_eq_true,if_false]
    by_cases h0:0<i
    ·have h0':(0:Int)<(i:Int):=by omega
     have hw1:z0_ ((i:Int)-1)=((i-1:Nat):Int):=by rw [w_id (by omega) (by omega)]; omega
     have hg1:c[i-1]?=some c[i-1]:=List.getElem?_eq_getElem (by omega)
     have hpl:=hce c[i-1] (List.getElem_mem (by omega))
     simp only [h0',decide_true,if_true,hw1,Int.natCast_nonneg,Int.toNat_natCast,hg1,Option.bind_some,zu0_ hk (show (c[i-1]).length≤1000000000 by omega)]
     cases hbf:befS c[i-1] c[i] with
     | false =>
      have:¬ cxAt c c i=true:=fun h=>by
       have:befS c[i-1] c[i]=true:=((z2b_ hg).1 h).2.1 h0 _ hg1
       rw [hbf] at this; cases this
      rw [if_neg this]; simp
     | true =>
      simp only [Bool.not_true,Bool.false_eq_true,if_false,hin]
      by_cases q:∀ k,1<(c[i]).length→k<(c[i]).length→z1q_ c[i] k∈c
      ·rw [if_pos q,if_pos ((z2b_ hg).2 ⟨hsp,fun _ t ht=>by rw [hg1] at ht; cases ht; exact hbf,fun a b=>q b a⟩)]
      ·rw [if_neg q,if_neg (fun h=>q fun b a=>((z2b_ hg).1 h).2.2 a b)]
    ·have h0':¬ (0:Int)<(i:Int):=by omega
     simp only [h0',decide_false,Bool.false_eq_true,if_false,hin]
     by_cases q:∀ k,1<(c[i]).length→k<(c[i]).length→z1q_ c[i] k∈c
     ·rw [if_pos q,if_pos ((z2b_ hg).2 ⟨hsp,fun h=>absurd h h0,fun a b=>q b a⟩)]
     ·rw [if_neg q,if_neg (fun h=>q fun b a=>((z2b_ hg).1 h).2.2 a b)]
  ·intro n
   simp only [z44_,Int.lt_irrefl,decide_false,Bool.false_eq_true,if_false]
 ·rw [decide_eq_true (by omega),if_pos rfl]
  congr 1
  symm
  rw [Bool.eq_false_iff,ne_eq,z6h_]
  exact fun h=>h48 h.len
theorem zu8_ {c:Cx} (hc:z2m_ c) (i:Nat):z2m_ (c.take i):=⟨by rw [List.length_take]; have:=hc.1; omega,fun s hs=>hc.2 s (List.mem_of_mem_take hs)⟩
theorem zu9_ {k:Nat} (hk:KK≤k) {c:Cx} (hc:z2m_ c) {i:Nat} (hi:i≤c.length) (hs:(c.take i).Pairwise (fun a b=>befS a b=true)) {s:List Int} (hsl:s.length≤1048576):zbo_ k (z1h_ s) (c,(i:Int))=some ((z1h_ s).any fun f=>!decide (f∈c.take i)):=by
 have hK:=zj_
 have hcl:=hc.1
 have hfl:(z1h_ s).length≤1048576:=by
  unfold z1h_
  split
  ·rw [List.length_map,List.length_range]; exact hsl
  ·simp
 unfold zbo_ zjg_
 rw [z8m_ (L:=fun n j=>za1_ k n (z1h_ s) (c,(i:Int)) ((z1h_ s).length:Int) j (some (-1))) (p:=fun f=>!decide (f∈c.take i)) (z1h_ s) ?_ ?_ (n:=k) (by omega)]
 ·rw [Option.bind_some,zbp_]
 ·intro n j f hj hlt
  have hw:=zi_ (i:=j) (by omega)
  have hf:f.length≤1048576:=by
   obtain ⟨_,q,hq,rfl⟩:=zbs_.1 (List.mem_of_getElem? hj)
   rw [zjw_ hq]; omega
  have b1:(i:Int)≤(c.length:Int):=by omega
  simp only [za1_,zjf_,hlt,decide_true,if_true,Int.natCast_nonneg,Int.le_refl,b1,and_self,Int.toNat_natCast,hj,Option.bind_some,zoi_ hk (zu8_ hc i) hs hf,zoe_,hw]
 ·intro n
  simp [za1_]
theorem zg8_ {s:List Int} {d:Cx}:((z1h_ s).any fun f=>!decide (f∈d))=false↔(1<s.length→∀ k,k<s.length→z1q_ s k∈d):=by
 rw [List.any_eq_false]
 constructor
 ·intro h h1 k hk
  have:=h _ (zbs_.2 ⟨h1,k,hk,rfl⟩)
  simpa using this
 ·intro h f hf
  obtain ⟨h1,k,hk,rfl⟩:=zbs_.1 hf
  simpa using h h1 k hk
theorem zua_ {k:Nat} (hk:KK≤k) {c:Cx} (hc:z2m_ c):ze6_ k c=some (cxB c):=by
 have hK:=zj_
 obtain ⟨hcl,hce⟩:=hc
 unfold ze6_
 have:=ztl_ (L:=fun n i=>z7m_ k n c (c.length:Int) i c (fun v_9=>some (decide ((List.length v_9:Int)≤48)))) (b:=c.length) (p:=fun i=>cxAt c (c.take i) i) (r:=some false) (e:=some (decide (c.length≤48))) ?_ ?_ (n:=k) (by omega)
 ·rw [this]
  have e:((List.range c.length).all (fun i=>cxAt c (c.take i) i)=true∧c.length≤48)↔CxP c:=by
   rw [List.all_eq_true]
   constructor
   ·rintro ⟨h,h48⟩
    have h':∀ i s,c[i]?=some s→SimpP s∧z48_ (fun a b=>befS a b=true) c i s∧(1<s.length→∀ k,k<s.length→z1q_ s k∈c.take i):=fun i s hs=>(z2b_ hs).1 (h i (List.mem_range.2 (List.getElem?_eq_some_iff.1 hs).1))
    refine ⟨h48,fun s hs=>?_,?_,fun s hs h1 k hk=>?_⟩
    ·obtain ⟨i,hi⟩:=List.getElem?_of_mem hs
     exact (h' i s hi).1
    ·have:=zg1_ (R:=fun a b=>befS a b=true) (fun a b c=>zbr_) (l:=c) (m:=c.length) (fun j hj x hx=>(h' j x hx).2.1)
     rwa [List.take_length] at this
    ·obtain ⟨i,hi⟩:=List.getElem?_of_mem hs
     exact List.mem_of_mem_take ((h' i s hi).2.2 h1 k hk)
   ·intro h
    refine ⟨fun i hi=>?_,h.len⟩
    rw [List.mem_range] at hi
    have hg:c[i]?=some c[i]:=List.getElem?_eq_getElem hi
    refine (z2b_ hg).2 ⟨h.simp _ (List.getElem_mem hi),zjn_ h.ord hg,fun h1 k hk=>?_⟩
    have hm:=h.face _ (List.getElem_mem hi) h1 k hk
    obtain ⟨j,hj⟩:=List.getElem?_of_mem hm
    obtain ⟨hjl,hje⟩:=List.getElem?_eq_some_iff.1 hj
    have hji:j<i:=by
     by_cases q:j<i
     ·exact q
     ·have hb:befS (z1q_ c[i] k) c[i]=true:=by
       unfold befS
       rw [zjw_ hk,decide_eq_true (by omega)]; rfl
      by_cases q2:j=i
      ·subst q2
       have:=zg6_ c[j]
       rw [← hje,zg6_] at hb; cases hb
      ·have h3:=List.pairwise_iff_getElem.1 h.ord i j hi hjl (by omega)
       rw [hje,ztx_ hb] at h3; cases h3
    rw [List.mem_take_iff_getElem]
    exact ⟨j,by omega,hje⟩
  by_cases q:CxP c
  ·obtain ⟨q1,q2⟩:=e.2 q
   rw [if_pos q1,decide_eq_true q2,z6h_.2 q]
  ·have:cxB c=false:=by rw [Bool.eq_false_iff,ne_eq,z6h_]; exact q
   rw [this]
   by_cases q1:(List.range c.length).all (fun i=>cxAt c (c.take i) i)=true
   ·rw [if_pos q1,decide_eq_false (fun q2=>q (e.1 ⟨q1,q2⟩))]
   ·rw [if_neg q1]
 ·intro n i hi hpre
  have hlt:(i:Int)<(c.length:Int):=by omega
  have hw:=zi_ (i:=i) (by omega)
  have hg:c[i]?=some c[i]:=List.getElem?_eq_getElem hi
  have hsl:=hce c[i] (List.getElem_mem hi)
  have hsorted:(c.take i).Pairwise (fun a b=>befS a b=true):=zg1_ (R:=fun a b=>befS a b=true) (fun a b c=>zbr_) (fun j hj x hx=>((z2b_ hx).1 (hpre j hj)).2.1)
  simp only [z7m_,hlt,decide_true,if_true,Int.natCast_nonneg,Int.toNat_natCast,hg,Option.bind_some,zto_ hk (show (c[i]).length≤1000000000 by omega),zof_ hk hsl,zu9_ hk ⟨hcl,hce⟩ (Nat.le_of_lt hi) hsorted hsl,hw]
  cases hsb:z6e_ c[i] with
  | false =>
   have:¬ cxAt c (c.take i) i=true:=fun h=>by
    have:=z6f_.2 ((z2b_ hg).1 h).1
    rw [hsb] at this; cases this
   rw [if_neg this]; simp
  | true =>
   have hsp:=z6f_.1 hsb
   simp only [Bool.not_true,Bool.false_eq_true,if_false]
   by_cases h0:0<i
   ·have h0':(0:Int)<(i:Int):=by omega
    have hw1:z0_ ((i:Int)-1)=((i-1:Nat):Int):=by rw [w_id (by omega) (by omega)]; omega
    have hg1:c[i-1]?=some c[i-1]:=List.getElem?_eq_getElem (by omega)
    have hpl:=hce c[i-1] (List.getElem_mem (by omega))
    simp only [h0',decide_true,if_true,hw1,Int.natCast_nonneg,Int.toNat_natCast,hg1,Option.bind_some,zg7_ hk (show (c[i-1]).length≤1000000000 by omega) (show (c[i]).length≤1000000000 by omega),zty_]
    cases hbf:befS c[i-1] c[i] with
    | false =>
     have:¬ cxAt c (c.take i) i=true:=fun h=>by
      have:befS c[i-1] c[i]=true:=((z2b_ hg).1 h).2.1 h0 _ hg1
      rw [hbf] at this; cases this
     rw [if_neg this]; simp
    | true =>
     simp only [Bool.not_true,Bool.false_eq_true,if_false]
     cases hq:(z1h_ c[i]).any fun f=>!decide (f∈c.take i) with
     | false =>
      rw [if_neg (by simp),if_pos ((z2b_ hg).2 ⟨hsp,fun _ t ht=>by rw [hg1] at ht; cases ht; exact hbf,zg8_.1 hq⟩)]
     | true =>
      rw [if_pos rfl,if_neg (fun h=>by rw [zg8_.2 ((z2b_ hg).1 h).2.2] at hq; cases hq)]
   ·have h0':¬ (0:Int)<(i:Int):=by omega
    simp only [h0',decide_false,Bool.false_eq_true,if_false]
    cases hq:(z1h_ c[i]).any fun f=>!decide (f∈c.take i) with
    | false =>
     rw [if_neg (by simp),if_pos ((z2b_ hg).2 ⟨hsp,fun h=>absurd h h0,zg8_.1 hq⟩)]
    | true =>
     rw [if_pos rfl,if_neg (fun h=>by rw [zg8_.2 ((z2b_ hg).1 h).2.2] at hq; cases hq)]
 ·intro n
  have e2:decide ((c.length:Int)≤48)=decide (c.length≤48):=decide_eq_decide.2 (by omega)
  simp only [z7m_,Int.lt_irrefl,decide_false,Bool.false_eq_true,if_false,e2]
abbrev She:=Cx×Int×List Int×List Mat
def ofC (c:Cx) (d:Int):List Nat:=(List.range c.length).filter fun i=>match c[i]? with | some s=>decide ((s.length:Int)=d+1) | none=>false
theorem zg9_ {c:Cx} {d:Int} {i:Nat} (h:i∈ofC c d):i<c.length:=List.mem_range.1 (List.mem_filter.1 h).1
theorem zoj_ (c:Cx) (d:Int):(ofC c d).length≤c.length:=by
 unfold ofC
 exact Nat.le_trans (List.length_filter_le ..) (by rw [List.length_range]; exact Nat.le_refl _)
theorem zga_ (f:Nat→Bool) (n:Nat):(List.range (n+1)).filter f=(List.range n).filter f++(if f n=true then [n] else []):=by
 rw [List.range_succ,List.filter_append,List.filter_cons,List.filter_nil]
theorem zub_ {k:Nat} (hk:KK≤k) {c:Cx} (hc:z2m_ c) {d:Int} (hd:-1000≤d∧d≤1000):z9m_ k c d=some ((ofC c d).map fun i:Nat=>(i:Int)):=by
 have hK:=zj_
 have hL:=z2k_
 obtain ⟨hcl,hce⟩:=hc
 have hwd:z0_ (d+1)=d+1:=w_id (by omega) (by omega)
 unfold z9m_
 have:=z2t_ (α:=List Int) (A:=List Int) (L:=fun n i q=>z7d_ k n c d i q (fun q_4=>some q_4)) (I:=fun pre q=>q=((List.range pre.length).filter fun i=>match c[i]? with | some s=>decide ((s.length:Int)=d+1) | none=>false).map fun i:Nat=>(i:Int)) (G:=fun _ _=>some ((ofC c d).map fun i:Nat=>(i:Int))) c ?_ ?_ k (by omega) [] (by simp)
 ·exact this
 ·intro n pre x post q hx hq ih hg hlt
  have hw:=zi_ (i:=pre.length) (by omega)
  have hql:q.length≤pre.length:=by rw [hq,List.length_map]; exact Nat.le_trans (List.length_filter_le ..) (by rw [List.length_range]; exact Nat.le_refl _)
  have hlim:(q.length+1)*8≤LIM:=by omega
  simp only [z7d_,hlt,decide_true,if_true,Int.natCast_nonneg,Int.toNat_natCast,hg,Option.bind_some,hw,hwd,List.length_singleton,hlim]
  by_cases hb:(x.length:Int)=d+1
  ·rw [decide_eq_true hb,if_pos rfl]
   refine ih _ ?_
   rw [List.length_append,List.length_singleton,zga_,hg]
   simp only [hb,decide_true,if_true,List.map_append,hq,List.map_cons,List.map_nil]
  ·rw [decide_eq_false hb,if_neg (by simp)]
   refine ih _ ?_
   rw [List.length_append,List.length_singleton,zga_,hg]
   simp only [hb,decide_false,Bool.false_eq_true,if_false,List.append_nil,hq]
 ·intro n q hq
  simp only [z7d_,Int.lt_irrefl,decide_false,Bool.false_eq_true,if_false,hq]
  rfl
theorem zuc_ {k:Nat} (hk:KK≤k) {c:Cx} (hc:z2m_ c) {d:Int} (hd:-1000≤d∧d≤1000):zfz_ k c d=some ((ofC c d).map fun i:Nat=>(i:Int)):=by
 have hK:=zj_
 have hL:=z2k_
 obtain ⟨hcl,hce⟩:=hc
 have hwd:z0_ (d+1)=d+1:=w_id (by omega) (by omega)
 unfold zfz_
 have:=z2t_ (α:=List Int) (A:=List Int) (L:=fun n i q=>z7n_ k n d c (c.length:Int) i q (fun q_4=>some q_4)) (I:=fun pre q=>q=((List.range pre.length).filter fun i=>match c[i]? with | some s=>decide ((s.length:Int)=d+1) | none=>false).map fun i:Nat=>(i:Int)) (G:=fun _ _=>some ((ofC c d).map fun i:Nat=>(i:Int))) c ?_ ?_ k (by omega) [] (by simp)
 ·exact this
 ·intro n pre x post q hx hq ih hg hlt
  have hw:=zi_ (i:=pre.length) (by omega)
  have hql:q.length≤pre.length:=by rw [hq,List.length_map]; exact Nat.le_trans (List.length_filter_le ..) (by rw [List.length_range]; exact Nat.le_refl _)
  have hlim:(q.length+1)*8≤LIM:=by omega
  simp only [z7n_,z74_,hlt,decide_true,if_true,Int.natCast_nonneg,Int.toNat_natCast,hg,Option.bind_some,hw,hwd,List.length_singleton,hlim]
  by_cases hb:(x.length:Int)=d+1
  ·rw [decide_eq_true hb,if_pos rfl]
   refine ih _ ?_
   rw [List.length_append,List.length_singleton,zga_,hg]
   simp only [hb,decide_true,if_true,List.map_append,hq,List.map_cons,List.map_nil]
  ·rw [decide_eq_false hb,if_neg (by simp)]
   refine ih _ ?_
   rw [List.length_append,List.length_singleton,zga_,hg]
   simp only [hb,decide_false,Bool.false_eq_true,if_false,List.append_nil,hq]
 ·intro n q hq
  simp only [z7n_,Int.lt_irrefl,decide_false,Bool.false_eq_true,if_false,hq]
  rfl
structure StP (c:Cx) (st:List Int):Prop where
 len:st.length=c.length
 val:∀ x∈st,0≤x∧x≤3
def zv_ (st:List Int) (l:List Nat):Int:=(l.map fun i=>st.getD i 0).sum
theorem zok_ (st:List Int) (l:List Nat) (i:Nat):zv_ st (l++[i])=zv_ st l+st.getD i 0:=by unfold zv_; simp
theorem z7s_ {c:Cx} {st:List Int} (h:StP c st) {i:Nat} (hi:i<c.length):st[i]?=some (st.getD i 0)∧0≤st.getD i 0∧st.getD i 0≤3:=by
 have hl:i<st.length:=by rw [h.len]; exact hi
 have e:st.getD i 0=st[i]:=by rw [List.getD_eq_getElem?_getD,List.getElem?_eq_getElem hl]; rfl
 rw [e]
 exact ⟨List.getElem?_eq_getElem hl,h.val _ (List.getElem_mem hl)⟩
theorem zjx_ {c:Cx} {st:List Int} (h:StP c st):∀ (l:List Nat),(∀ i∈l,i<c.length)→0≤zv_ st l∧zv_ st l≤3*l.length
 | [],_=>by simp [zv_]
 | i::l,hl=>by
  have ih:=zjx_ h l (fun j hj=>hl j (by simp [hj]))
  have:=z7s_ h (hl i (by simp))
  have e:zv_ st (i::l)=st.getD i 0+zv_ st l:=by unfold zv_; simp
  rw [e,List.length_cons]
  omega
theorem zjy_ {k:Nat} (hk:KK≤k) {c:Cx} (hc:z2m_ c) {st:List Int} (h:StP c st) {d:Int} (hd:-1000≤d∧d≤1000):z6a_ k c st d=some (zv_ st (ofC c d)):=by
 have hK:=zj_
 have hol:=zoj_ c d
 have hcl:=hc.1
 unfold z6a_
 rw [zub_ hk hc hd]
 simp only [Option.bind_some]
 have:=z2t_ (α:=Nat) (A:=Int) (L:=fun n i z=>z9n_ k n st z i ((ofC c d).map fun i:Nat=>(i:Int)) (fun z=>some z)) (I:=fun pre z=>z=zv_ st pre) (G:=fun _ _=>some (zv_ st (ofC c d))) (ofC c d) ?_ ?_ k (by omega) 0 rfl
 ·exact this
 ·intro n pre x post z hx hz ih hg hlt
  have hw:=zi_ (i:=pre.length) (by omega)
  have hxc:x<c.length:=zg9_ (by rw [hx]; simp:x∈ofC c d)
  have hF:((ofC c d).map fun i:Nat=>(i:Int))[pre.length]?=some (x:Int):=by rw [List.getElem?_map,hg]; rfl
  have hpl:pre.length<(ofC c d).length:=by omega
  obtain ⟨s1,s2,s3⟩:=z7s_ h hxc
  have hb:=zjx_ h pre (fun j hj=>zg9_ (by rw [hx]; simp [hj]:j∈ofC c d))
  have hwz:z0_ (z+st.getD x 0)=z+st.getD x 0:=w_id (by omega) (by omega)
  simp only [z9n_,List.length_map,hlt,hpl,decide_true,if_true,Int.natCast_nonneg,Int.toNat_natCast,and_self,hF,s1,Option.bind_some,hw,hwz]
  exact ih _ (by rw [zok_,hz])
 ·intro n z hz
  simp only [z9n_,List.length_map,Int.lt_irrefl,decide_false,Bool.false_eq_true,if_false,hz]
theorem zjz_ {k:Nat} (hk:KK≤k) {s:She} (hc:z2m_ s.1) (h:StP s.1 s.2.2.1) {d:Int} (hd:-1000≤d∧d≤1000):z8z_ k s d=some (zv_ s.2.2.1 (ofC s.1 d)):=by
 have hK:=zj_
 have hol:=zoj_ s.1 d
 have hcl:=hc.1
 unfold z8z_
 rw [zuc_ hk hc hd]
 simp only [Option.bind_some,List.length_map]
 have:=z2t_ (α:=Nat) (A:=Int) (L:=fun n i z=>za3_ k n z ((ofC s.1 d).length:Int) i ((ofC s.1 d).map fun i:Nat=>(i:Int)) s (fun z=>some z)) (I:=fun pre z=>z=zv_ s.2.2.1 pre) (G:=fun _ _=>some (zv_ s.2.2.1 (ofC s.1 d))) (ofC s.1 d) ?_ ?_ k (by omega) 0 rfl
 ·exact this
 ·intro n pre x post z hx hz ih hg hlt
  have hw:=zi_ (i:=pre.length) (by omega)
  have hxc:x<s.1.length:=zg9_ (by rw [hx]; simp:x∈ofC s.1 d)
  have hF:((ofC s.1 d).map fun i:Nat=>(i:Int))[pre.length]?=some (x:Int):=by rw [List.getElem?_map,hg]; rfl
  have hpl:pre.length<(ofC s.1 d).length:=by omega
  obtain ⟨s1,s2,s3⟩:=z7s_ h hxc
  have hb:=zjx_ h pre (fun j hj=>zg9_ (by rw [hx]; simp [hj]:j∈ofC s.1 d))
  have hwz:z0_ (z+s.2.2.1.getD x 0)=z+s.2.2.1.getD x 0:=w_id (by omega) (by omega)
  simp only [za3_,List.length_map,hlt,hpl,decide_true,if_true,Int.natCast_nonneg,Int.toNat_natCast,and_self,hF,s1,Option.bind_some,hw,hwz]
  exact ih _ (by rw [zok_,hz])
 ·intro n z hz
  simp only [za3_,Int.lt_irrefl,decide_false,Bool.false_eq_true,if_false,hz]
noncomputable instance stP_dec (c:Cx) (st:List Int):Decidable (StP c st):=Classical.propDecidable _
noncomputable def stB (c:Cx) (st:List Int):Bool:=decide (StP c st)&&(List.range 4).all fun d=>decide (zv_ st (ofC c (d:Int))≤32)
theorem zk0_ {c:Cx} {st:List Int} (h:stB c st=true):StP c st:=by
 unfold stB at h
 rw [Bool.and_eq_true,decide_eq_true_eq] at h
 exact h.1
theorem zol_ {c:Cx} {st:List Int}:(st.all (fun x=>decide (0≤x∧x≤4-1))&&decide ((st.length:Int)=(c.length:Int)))=true↔StP c st:=by
 simp only [Bool.and_eq_true,List.all_eq_true,decide_eq_true_eq]
 exact ⟨fun h=>⟨by omega,fun x hx=>by have:=h.1 x hx; omega⟩,fun h=>⟨fun x hx=>by have:=h.val x hx; omega,by have:=h.len; omega⟩⟩
theorem zud_ {k:Nat} (hk:KK≤k) {c:Cx} (hc:z2m_ c) {st:List Int} (hs:st.length≤1048576):zf8_ k c st=some (stB c st):=by
 have hK:=zj_
 unfold zf8_
 rw [zbq_ hk hs _ (by omega)]
 simp only [Option.bind_some]
 by_cases h:StP c st
 ·rw [zol_.2 h]
  simp only [Bool.not_true,Bool.false_eq_true,if_false]
  have:=z2l_ (L:=fun n i=>z9o_ k n c st i (some true)) (b:=4) (p:=fun d:Nat=>decide (zv_ st (ofC c (d:Int))≤32)) (r:=some false) (e:=some true) ?_ ?_ (n:=k) (by omega)
  ·rw [this]
   unfold stB
   rw [decide_eq_true h,Bool.true_and]
   cases (List.range 4).all fun d=>decide (zv_ st (ofC c (d:Int))≤32) <;> rfl
  ·intro n i hi
   have hlt:(i:Int)≤3:=by omega
   have hw:=zi_ (i:=i) (by omega)
   simp only [z9o_,hlt,decide_true,if_true,zjy_ hk hc h (d:=(i:Int)) (by omega),Option.bind_some,hw]
   by_cases c1:zv_ st (ofC c (i:Int))≤32
   ·rw [decide_eq_true c1,decide_eq_false (by omega),if_neg (by simp),if_pos rfl]
   ·rw [decide_eq_false c1,decide_eq_true (by omega),if_pos rfl,if_neg (by simp)]
  ·intro n
   have:¬ (((4:Nat):Int)≤3):=by omega
   simp only [z9o_,this,decide_false,Bool.false_eq_true,if_false]
 ·have h2:(st.all (fun x=>decide (0≤x∧x≤4-1))&&decide ((st.length:Int)=(c.length:Int)))=false:=by rw [Bool.eq_false_iff,ne_eq,zol_]; exact h
  rw [h2,if_pos (by simp)]
  unfold stB
  rw [decide_eq_false h]; rfl
theorem zue_ {k:Nat} (hk:KK≤k) {c:Cx} (hc:z2m_ c) {st:List Int} (hs:st.length≤1048576):ze7_ k c st=some (stB c st):=by
 have hK:=zj_
 have hcf:zfy_ k st ()=some (st.any fun x=>!decide (0≤x∧x≤3)):=by
  unfold zfy_ zji_
  rw [z8m_ (L:=fun n i=>za2_ k n st () (st.length:Int) i (some (-1))) (p:=fun x=>!decide (0≤x∧x≤3)) st ?_ ?_ (n:=k) (by omega)]
  ·rw [Option.bind_some,zbp_]
  ·intro n i x hi hlt
   have hw:=zi_ (i:=i) (by omega)
   simp only [za2_,zjh_,z46_,hlt,decide_true,if_true,Int.natCast_nonneg,Int.toNat_natCast,hi,Option.bind_some,hw]
  ·intro n
   simp [za2_]
 unfold ze7_
 rw [hcf]
 simp only [Option.bind_some]
 by_cases hl:st.length=c.length
 ·rw [decide_eq_true (show (st.length:Int)=(c.length:Int) by omega),if_neg (by simp)]
  by_cases hv:∀ x∈st,0≤x∧x≤3
  ·have h:StP c st:=⟨hl,hv⟩
   have ha:(st.any fun x=>!decide (0≤x∧x≤3))=false:=by
    rw [List.any_eq_false]; intro x hx; simp [hv x hx]
   rw [ha,if_neg (by simp)]
   have:=z2l_ (L:=fun n i=>za4_ k n st i c (some true)) (b:=4) (p:=fun d:Nat=>decide (zv_ st (ofC c (d:Int))≤32)) (r:=some false) (e:=some true) ?_ ?_ (n:=k) (by omega)
   ·rw [this]
    unfold stB
    rw [decide_eq_true h,Bool.true_and]
    cases (List.range 4).all fun d=>decide (zv_ st (ofC c (d:Int))≤32) <;> rfl
   ·intro n i hi
    have hlt:(i:Int)<4:=by omega
    have hw:=zi_ (i:=i) (by omega)
    have hst:=zjz_ hk (s:=(c,0,st,[])) hc h (d:=(i:Int)) (by omega)
    simp only at hst
    simp only [za4_,hlt,decide_true,if_true,hst,Option.bind_some,hw]
    by_cases c1:zv_ st (ofC c (i:Int))≤32
    ·rw [decide_eq_true c1,decide_eq_false (by omega),if_neg (by simp),if_pos rfl]
    ·rw [decide_eq_false c1,decide_eq_true (by omega),if_pos rfl,if_neg (by simp)]
   ·intro n
    have:¬ (((4:Nat):Int)<4):=by omega
    simp only [za4_,this,decide_false,Bool.false_eq_true,if_false]
  ·have ha:(st.any fun x=>!decide (0≤x∧x≤3))=true:=by
    rw [List.any_eq_true]
    apply Classical.byContradiction
    intro hn
    apply hv
    intro x hx
    apply Classical.byContradiction
    intro hx2
    exact hn ⟨x,hx,by simp only [Bool.not_eq_true',decide_eq_false_iff_not]; exact hx2⟩
   rw [ha,if_pos rfl]
   unfold stB
   rw [decide_eq_false (fun h:StP c st=>hv h.val)]; rfl
 ·rw [decide_eq_false (show ¬ (st.length:Int)=(c.length:Int) by omega),if_pos (by simp)]
  unfold stB
  rw [decide_eq_false (fun h:StP c st=>hl h.len)]; rfl
def zr_ (c:Cx) (s:List Int):List Nat:=(z1h_ s).map (posC c)
theorem zom_ (s:List Int):(z1h_ s).length=if 1<s.length then s.length else 0:=by
 unfold z1h_
 split
 ·rw [List.length_map,List.length_range]
 ·rfl
theorem zk1_ (c:Cx) (s:List Int):(zr_ c s).length=if 1<s.length then s.length else 0:=by unfold zr_; rw [List.length_map,zom_]
theorem zon_ {c:Cx} (h:CxP c) {s:List Int} (hs:s∈c) {f:Nat} (hf:f∈zr_ c s):f<c.length:=by
 unfold zr_ at hf
 obtain ⟨g,hg,rfl⟩:=List.mem_map.1 hf
 obtain ⟨h1,j,hj,rfl⟩:=zbs_.1 hg
 exact z5l_.2 (h.face s hs h1 j hj)
theorem zgb_ {c:Cx} (h:CxP c):z2m_ c:=⟨by have:=h.len; omega,fun s hs=>by have:=(h.simp s hs).len4; omega⟩
theorem zuf_ {k:Nat} (hk:KK≤k) {c:Cx} (h:CxP c) {j:Nat} {s:List Int} (hj:c[j]?=some s):z9q_ k c (j:Int)=some ((zr_ c s).map fun i:Nat=>(i:Int)):=by
 have hK:=zj_
 have hL:=z2k_
 have hm:=List.mem_of_getElem? hj
 have hs4:=(h.simp s hm).len4
 have hsc:=zgb_ h
 unfold z9q_
 rw [if_pos (Int.natCast_nonneg _),Int.toNat_natCast,hj]
 simp only [Option.bind_some]
 by_cases c1:1<s.length
 ·have:=z2t_ (α:=Nat) (A:=List Int) (L:=fun n i q=>z7f_ k n c s i q (fun q_5=>some q_5)) (I:=fun pre q=>q=(List.range pre.length).map fun i=>((posC c (z1q_ s i):Nat):Int)) (G:=fun _ _=>some ((zr_ c s).map fun i:Nat=>(i:Int))) (List.range s.length) ?_ ?_ k (by simp; omega) [] (by simp)
  ·exact this
  ·intro n pre x post q hx hq ih hg hlt
   rw [List.length_range] at hlt
   have hpl:pre.length<s.length:=by omega
   have hw:=zi_ (i:=pre.length) (by omega)
   have hlim:(q.length+1)*8≤LIM:=by rw [hq,List.length_map,List.length_range]; omega
   have hin:=h.face s hm c1 pre.length hpl
   have c1':(1:Int)<(s.length:Int):=by omega
   simp only [z7f_,hlt,c1',decide_true,if_true,zob_ (show s.length≤1048576 by omega) hpl,zod_ hk hsc,z5l_.2 hin,Option.bind_some,List.length_singleton,hlim,hw]
   refine ih _ ?_
   rw [hq,List.length_append,List.length_singleton,List.range_succ,List.map_append]
   rfl
  ·intro n q hq
   rw [List.length_range] at hq ⊢
   simp only [z7f_,Int.lt_irrefl,decide_false,Bool.false_eq_true,if_false,hq]
   unfold zr_ z1h_
   rw [if_pos c1,List.map_map,List.map_map]
   rfl
 ·obtain ⟨n,hn⟩:∃ n,k=n+1:=⟨k-1,by omega⟩
  have c1':¬ (1:Int)<(s.length:Int):=by omega
  conv=>lhs; arg 2; rw [hn]
  simp only [z7f_,c1',decide_false,Bool.false_eq_true,if_false]
  unfold zr_ z1h_
  rw [if_neg c1]
  split <;> rfl
theorem zug_ {k:Nat} (hk:KK≤k) {c:Cx} (h:CxP c) {j:Nat} {s:List Int} (hj:c[j]?=some s):zg0_ k c (j:Int)=some ((zr_ c s).map fun i:Nat=>(i:Int)):=by
 have hK:=zj_
 have hL:=z2k_
 have hm:=List.mem_of_getElem? hj
 have hs4:=(h.simp s hm).len4
 have hsc:=zgb_ h
 have hfl:=zom_ s
 have hfl':(z1h_ s).length≤4:=by rw [hfl]; split <;> omega
 unfold zg0_
 rw [if_pos (Int.natCast_nonneg _),Int.toNat_natCast,hj]
 simp only [Option.bind_some,zof_ hk (show s.length≤1048576 by omega)]
 have:=z2t_ (α:=List Int) (A:=List Int) (L:=fun n i q=>za5_ k n ((z1h_ s).length:Int) i q (z1h_ s) c (fun q_8=>some q_8)) (I:=fun pre q=>q=pre.map fun f=>((posC c f:Nat):Int)) (G:=fun _ _=>some ((zr_ c s).map fun i:Nat=>(i:Int))) (z1h_ s) ?_ ?_ k (by omega) [] rfl
 ·exact this
 ·intro n pre x post q hx hq ih hg hlt
  have hpl:pre.length<(z1h_ s).length:=by omega
  have hw:=zi_ (i:=pre.length) (by omega)
  have hlim:(q.length+1)*8≤LIM:=by rw [hq,List.length_map]; omega
  obtain ⟨h1,i,hi,rfl⟩:=zbs_.1 (List.mem_of_getElem? hg)
  have hin:=h.face s hm h1 i hi
  simp only [za5_,hlt,hpl,decide_true,if_true,Int.natCast_nonneg,Int.toNat_natCast,and_self,hg,zoi_ hk hsc h.ord (show (z1q_ s i).length≤1048576 by rw [zjw_ hi]; omega),z5l_.2 hin,Option.bind_some,List.length_singleton,hlim,hw]
  exact ih _ (by rw [hq,List.map_append]; rfl)
 ·intro n q hq
  simp only [za5_,Int.lt_irrefl,decide_false,Bool.false_eq_true,if_false,hq]
  unfold zr_
  rw [List.map_map]
  rfl
def z1s_ (c:Cx) (j:Nat):List (Nat×Nat×Nat):=match c[j]? with
 | some s=>(List.range (zr_ c s).length).map fun i=>(j,i,(zr_ c s).getD i 0)
 | none=>[]
def arrN (c:Cx) (n:Nat):List (Nat×Nat×Nat):=(List.range n).flatMap (z1s_ c)
theorem za9_ (c:Cx) (n:Nat):arrN c (n+1)=arrN c n++z1s_ c n:=by unfold arrN; rw [List.range_succ,List.flatMap_append]; simp
theorem zk2_ {c:Cx} {j:Nat} {s:List Int} (hj:c[j]?=some s):(z1s_ c j).length=if 1<s.length then s.length else 0:=by
 unfold z1s_; rw [hj]; simp only [List.length_map,List.length_range,zk1_]
theorem zuh_ {c:Cx} {j i:Nat} {s:List Int} (hj:c[j]?=some s) (hi:i<(zr_ c s).length):(z1s_ c j)[i]?=some (j,i,(zr_ c s).getD i 0):=by
 unfold z1s_; rw [hj]; simp only [List.getElem?_map,List.getElem?_range hi]; rfl
theorem z7t_ {c:Cx} (h:CxP c):∀ n,n≤c.length→(arrN c n).length≤4*n
 | 0,_=>by simp [arrN]
 | n+1,hn=>by
  have ih:=z7t_ h n (by omega)
  have hg:c[n]?=some c[n]:=List.getElem?_eq_getElem (by omega)
  have h4:=(h.simp _ (List.mem_of_getElem? hg)).len4
  rw [za9_,List.length_append,zk2_ hg]
  split <;> omega
theorem zui_ (c:Cx) {a b:Nat} (h:a≤b):(arrN c a).length≤(arrN c b).length:=by
 induction b with
 | zero=>rw [show a=0 by omega]; exact Nat.le_refl _
 | succ b ih =>
  by_cases e:a=b+1
  ·rw [e]; exact Nat.le_refl _
  ·have:=ih (by omega)
   rw [za9_,List.length_append]; omega
theorem zoo_ {k:Nat} (hk:KK≤k) {c:Cx} (h:CxP c) {j i:Nat} (hj:j≤c.length) (hi:i≤4):z9p_ k c (j:Int) (i:Int)=some (((arrN c j).length+i:Nat):Int):=by
 have hK:=zj_
 have hcl:=h.len
 unfold z9p_
 have:=z2t_ (α:=Nat) (A:=Int) (L:=fun n p z=>z7e_ k n c (j:Int) (i:Int) z p (fun i_3 at_4=>some (z0_ (at_4+i_3)))) (I:=fun pre z=>z=((arrN c pre.length).length:Int)) (G:=fun _ _=>some (((arrN c j).length+i:Nat):Int)) (List.range j) ?_ ?_ k (by simp; omega) 0 rfl
 ·exact this
 ·intro n pre x post z hx hz ih hg hlt
  rw [List.length_range] at hlt
  have hpl:pre.length<c.length:=by omega
  have hw:=zi_ (i:=pre.length) (by omega)
  have hgc:c[pre.length]?=some c[pre.length]:=List.getElem?_eq_getElem hpl
  have h4:=(h.simp _ (List.mem_of_getElem? hgc)).len4
  have hal:=z7t_ h pre.length (by omega)
  have hnx:(arrN c (pre.length+1)).length=(arrN c pre.length).length+(if 1<(c[pre.length]).length then (c[pre.length]).length else 0):=by rw [za9_,List.length_append,zk2_ hgc]
  simp only [z7e_,hlt,decide_true,if_true,Int.natCast_nonneg,Int.toNat_natCast,hgc,Option.bind_some,hw]
  by_cases c1:1<(c[pre.length]).length
  ·have hwz:z0_ (z+((c[pre.length]).length:Int))=z+((c[pre.length]).length:Int):=w_id (by omega) (by omega)
   rw [decide_eq_true (by omega),if_pos rfl,hwz]
   refine ih _ ?_
   rw [if_pos c1] at hnx
   rw [List.length_append,List.length_singleton,hnx,hz]; rfl
  ·rw [decide_eq_false (by omega),if_neg (by simp)]
   refine ih _ ?_
   rw [if_neg c1] at hnx
   rw [List.length_append,List.length_singleton,hnx,hz]; rfl
 ·intro n z hz
  rw [List.length_range] at hz ⊢
  have hal:=z7t_ h j hj
  have hwz:z0_ (z+(i:Int))=(((arrN c j).length+i:Nat):Int):=by rw [w_id (by omega) (by omega)]; omega
  simp only [z7e_,Int.lt_irrefl,decide_false,Bool.false_eq_true,if_false,hwz]
def toI3 (a:Nat×Nat×Nat):Int×Int×Int:=((a.1:Int),(a.2.1:Int),(a.2.2:Int))
theorem zuj_ {k:Nat} (hk:KK≤k) {c:Cx} (h:CxP c):ze8_ k c=some ((arrN c c.length).map toI3):=by
 have hK:=zj_
 have hL:=z2k_
 have hcl:=h.len
 unfold ze8_ zjj_
 simp only [Option.bind_some]
 have:=z2t_ (α:=List Int) (A:=List (Int×Int×Int)) (L:=fun n i q=>za6_ k n (c.length:Int) i q c (fun q_8=>some q_8)) (I:=fun pre q=>q=(arrN c pre.length).map toI3) (G:=fun _ _=>some ((arrN c c.length).map toI3)) c ?_ ?_ k (by omega) [] rfl
 ·exact this
 ·intro n pre x post q hx hq ih hg hlt
  have hw:=zi_ (i:=pre.length) (by omega)
  have hpl:pre.length<c.length:=by omega
  have h4:=(h.simp _ (List.mem_of_getElem? hg)).len4
  have hal:=z7t_ h pre.length (by omega)
  have hfl:=zk1_ c x
  have hfl4:(zr_ c x).length≤4:=by rw [hfl]; split <;> omega
  simp only [za6_,hlt,decide_true,if_true,zug_ hk h hg,Option.bind_some,List.length_map]
  have inner:∀ E:Int→Int→List (Int×Int×Int)→Cx→Option (List (Int×Int×Int)),z7o_ k k (pre.length:Int) (c.length:Int) (pre.length:Int) ((zr_ c x).length:Int) 0 q ((zr_ c x).map fun i:Nat=>(i:Int)) c E=E (c.length:Int) (pre.length:Int) ((arrN c (pre.length+1)).map toI3) c:=by
   intro E
   have:=z2t_ (α:=Nat) (A:=List (Int×Int×Int)) (L:=fun n i r=>z7o_ k n (pre.length:Int) (c.length:Int) (pre.length:Int) ((zr_ c x).length:Int) i r ((zr_ c x).map fun i:Nat=>(i:Int)) c E) (I:=fun pre2 r=>r=((arrN c pre.length)++(List.range pre2.length).map fun i=>(pre.length,i,(zr_ c x).getD i 0)).map toI3) (G:=fun _ _=>E (c.length:Int) (pre.length:Int) ((arrN c (pre.length+1)).map toI3) c) (zr_ c x) ?_ ?_ k (by omega) q (by simp [hq])
   ·exact this
   ·intro n pre2 f post2 r hx2 hr ih2 hg2 hlt2
    have hpl2:pre2.length<(zr_ c x).length:=by omega
    have hw2:=zi_ (i:=pre2.length) (by omega)
    have hF:((zr_ c x).map fun i:Nat=>(i:Int))[pre2.length]?=some (f:Int):=by rw [List.getElem?_map,hg2]; rfl
    have hlim:(r.length+1)*24≤LIM:=by rw [hr,List.length_map,List.length_append,List.length_map,List.length_range]; omega
    have hgd:(zr_ c x).getD pre2.length 0=f:=by rw [List.getD_eq_getElem?_getD,hg2]; rfl
    simp only [z7o_,List.length_map,hlt2,hpl2,decide_true,if_true,Int.natCast_nonneg,Int.toNat_natCast,and_self,hF,Option.bind_some,List.length_singleton,hlim,hw2]
    refine ih2 _ ?_
    rw [hr,List.length_append,List.length_singleton,List.range_succ,List.map_append (l₁:=List.range pre2.length),← List.append_assoc,List.map_append (f:=toI3) (l₁:=arrN c pre.length++_)]
    show _=_++[toI3 (pre.length,pre2.length,(zr_ c x).getD pre2.length 0)]
    rw [hgd]; rfl
   ·intro n r hr
    have e:z1s_ c pre.length=(List.range (zr_ c x).length).map fun i=>(pre.length,i,(zr_ c x).getD i 0):=by unfold z1s_; rw [hg]
    simp only [z7o_,Int.lt_irrefl,decide_false,Bool.false_eq_true,if_false,hr]
    rw [za9_,e]
  rw [inner,hw]
  exact ih _ (by rw [List.length_append,List.length_singleton])
 ·intro n q hq
  simp only [za6_,Int.lt_irrefl,decide_false,Bool.false_eq_true,if_false,hq]
noncomputable def matB (k:Nat) (m:Mat):Bool:=(z9r_ k m).getD false
theorem zop_ {k:Nat} (hk:KK≤k) {m:Mat} (hv:m.2.2.2.length≤1048576):z9r_ k m=some (matB k m)∧zbb_ k m=some (matB k m)∧(matB k m=true→∃ R C,MatP m R C):=by
 obtain ⟨b,h1,h2,h3⟩:=ztp_ hk hv
 have e:matB k m=b:=by unfold matB; rw [h1]; rfl
 rw [e]
 exact ⟨h1,h2,h3⟩
noncomputable def z6i_ (k:Nat) (p:Int):Bool:=(z7c_ k p).getD false
theorem zk3_ {k:Nat} (hk:KK≤k) (p:Int):z7c_ k p=some (z6i_ k p)∧z8w_ k p=some (z6i_ k p)∧(z6i_ k p=true→2≤p∧p≤251):=by
 obtain ⟨b,h1,h2,h3⟩:=znz_ hk p
 have e:z6i_ k p=b:=by unfold z6i_; rw [h1]; rfl
 rw [e]
 exact ⟨h1,h2,h3⟩
noncomputable def okA (k:Nat) (s:She) (a:Nat×Nat×Nat) (m:Mat):Bool:=matB k m&&(decide (m.1=s.2.1)&&(decide (m.2.1=s.2.2.1.getD a.1 0)&&decide (m.2.2.1=s.2.2.1.getD a.2.2 0)))
noncomputable def chk1 (k:Nat) (s:She) (o:Nat) (l:List (Nat×Nat×Nat)) (i:Nat):Bool:=match l[i]? with
 | some a=>(match s.2.2.2[o+i]? with | some m=>okA k s a m | none=>false)
 | none=>true
def chk (k:Nat) (s:She) (o:Nat) (l:List (Nat×Nat×Nat)):Prop:=∀ j a,l[j]?=some a→∃ m,s.2.2.2[o+j]?=some m∧okA k s a m=true
theorem zoq_ {k:Nat} {s:She} {o:Nat} {l:List (Nat×Nat×Nat)}:(List.range l.length).all (chk1 k s o l)=true↔chk k s o l:=by
 simp only [List.all_eq_true,List.mem_range]
 constructor
 ·intro z i a ha
  have:=z i (List.getElem?_eq_some_iff.1 ha).1
  unfold chk1 at this
  rw [ha] at this
  cases hm:s.2.2.2[o+i]? with
  | none=>rw [hm] at this; cases this
  | some m=>rw [hm] at this; exact ⟨m,rfl,this⟩
 ·intro z i hi
  obtain ⟨m,h1,h2⟩:=z i _ (List.getElem?_eq_getElem hi)
  unfold chk1
  rw [List.getElem?_eq_getElem hi,h1]
  exact h2
theorem zuk_ {k:Nat} {s:She} {o:Nat} {l r:List (Nat×Nat×Nat)}:chk k s o (l++r)↔chk k s o l∧chk k s (o+l.length) r:=by
 constructor
 ·intro h
  refine ⟨fun j a hj=>h j a (by rw [List.getElem?_append_left (List.getElem?_eq_some_iff.1 hj).1]; exact hj),fun j a hj=>?_⟩
  have:=h (l.length+j) a (by rw [List.getElem?_append_right (by omega),Nat.add_sub_cancel_left]; exact hj)
  rwa [← Nat.add_assoc] at this
 ·rintro ⟨h1,h2⟩ j a hj
  by_cases c:j<l.length
  ·rw [List.getElem?_append_left c] at hj; exact h1 j a hj
  ·rw [List.getElem?_append_right (by omega)] at hj
   have:=h2 (j-l.length) a hj
   rwa [show o+l.length+(j-l.length)=o+j by omega] at this
theorem zor_ {k:Nat} {s:She}:∀ n,(∀ j,j<n→chk k s (arrN s.1 j).length (z1s_ s.1 j))↔chk k s 0 (arrN s.1 n)
 | 0=>by
  constructor
  ·intro _ j a hj; simp [arrN] at hj
  ·intro _ j hj; omega
 | n+1=>by
  rw [za9_,zuk_,← zor_ n,Nat.zero_add]
  constructor
  ·intro h; exact ⟨fun j hj=>h j (by omega),h n (by omega)⟩
  ·rintro ⟨h1,h2⟩ j hj
   by_cases e:j=n
   ·subst e; exact h2
   ·exact h1 j (by omega)
open Classical in
noncomputable def sheB (k:Nat) (s:She):Bool:=cxB s.1&&(z6i_ k s.2.1&&(stB s.1 s.2.2.1&&decide (s.2.2.2.length=(arrN s.1 s.1.length).length∧chk k s 0 (arrN s.1 s.1.length))))
structure smallSh (s:She):Prop where
 cx:z2m_ s.1
 st:s.2.2.1.length≤1048576
 maps:s.2.2.2.length≤1048576
 cells:∀ m∈s.2.2.2,m.2.2.2.length≤1048576
theorem zul_ {c:Cx} (h:CxP c) {n j:Nat} {a:Nat×Nat×Nat} (hn:n≤c.length) (hj:(arrN c n)[j]?=some a):a.1<c.length∧a.2.2<c.length:=by
 have hm:=List.mem_of_getElem? hj
 unfold arrN at hm
 obtain ⟨i,hi,ha⟩:=List.mem_flatMap.1 hm
 rw [List.mem_range] at hi
 have hg:c[i]?=some c[i]:=List.getElem?_eq_getElem (by omega)
 unfold z1s_ at ha
 rw [hg] at ha
 obtain ⟨p,hp,rfl⟩:=List.mem_map.1 ha
 rw [List.mem_range] at hp
 refine ⟨by show i<_; omega,zon_ h (List.mem_of_getElem? hg) ?_⟩
 show (zr_ c c[i]).getD p 0∈_
 rw [List.getD_eq_getElem?_getD,List.getElem?_eq_getElem hp]
 exact List.getElem_mem hp
open Classical in
theorem zum_ {k:Nat} (hk:KK≤k) {s:She} (hs:smallSh s):zfa_ k s=some (sheB k s):=by
 have hK:=zj_
 unfold zfa_ sheB
 obtain ⟨p1,p2,p3⟩:=zk3_ hk s.2.1
 rw [zu7_ hk hs.cx,p1,zud_ hk hs.cx hs.st]
 cases hcx:cxB s.1 with
 | false=>simp
 | true =>
 cases z6i_ k s.2.1 with
 | false=>simp
 | true =>
 cases hst:stB s.1 s.2.2.1 with
 | false=>simp
 | true =>
  have h:=z6h_.1 hcx
  have hS:=zk0_ hst
  have hcl:=h.len
  have hal:=z7t_ h s.1.length (Nat.le_refl _)
  have hcount:zf9_ k s.1=some ((arrN s.1 s.1.length).length:Int):=by
   unfold zf9_
   have:=zoo_ hk h (j:=s.1.length) (i:=0) (Nat.le_refl _) (by omega)
   rw [Nat.add_zero] at this
   rw [show ((0:Nat):Int)=0 from rfl] at this
   rw [this]; rfl
  simp only [Option.bind_some,Bool.not_true,Bool.false_eq_true,if_false,hcount,Bool.true_and]
  by_cases hN:s.2.2.2.length=(arrN s.1 s.1.length).length
  ·rw [decide_eq_true (show (s.2.2.2.length:Int)=((arrN s.1 s.1.length).length:Int) by omega),if_neg (by simp)]
   have:=z2l_ (L:=fun n i=>z6b_ k n s i (some true)) (b:=s.1.length) (p:=fun j=>decide (chk k s (arrN s.1 j).length (z1s_ s.1 j))) (r:=some false) (e:=some true) ?_ ?_ (n:=k) (by omega)
   ·rw [this]
    have e:((List.range s.1.length).all (fun j=>decide (chk k s (arrN s.1 j).length (z1s_ s.1 j)))=true)↔chk k s 0 (arrN s.1 s.1.length):=by
     rw [← zor_]
     simp only [List.all_eq_true,List.mem_range,decide_eq_true_eq]
    by_cases q:chk k s 0 (arrN s.1 s.1.length)
    ·rw [if_pos (e.2 q),decide_eq_true ⟨hN,q⟩]
    ·rw [if_neg (fun z=>q (e.1 z)),decide_eq_false (fun z=>q z.2)]
   ·intro n j hj
    have hlt:(j:Int)<(s.1.length:Int):=by omega
    have hw:=zi_ (i:=j) (by omega)
    have hg:s.1[j]?=some s.1[j]:=List.getElem?_eq_getElem hj
    have hm:=List.mem_of_getElem? hg
    have h4:=(h.simp _ hm).len4
    have hbl:=zk2_ hg
    have hnx:(arrN s.1 (j+1)).length=(arrN s.1 j).length+(z1s_ s.1 j).length:=by rw [za9_,List.length_append]
    have hmono:=zui_ s.1 (show j+1≤s.1.length by omega)
    have haj:=z7t_ h j (by omega)
    have hfl:=zk1_ s.1 s.1[j]
    simp only [z6b_,hlt,decide_true,if_true]
    have inner:=z2l_ (L:=fun m i=>z9s_ k m s (j:Int) i (fun s_5 k_6=>z6b_ k n s_5 (z0_ (k_6+1)) (some true))) (b:=(z1s_ s.1 j).length) (p:=chk1 k s (arrN s.1 j).length (z1s_ s.1 j)) (r:=some false) (e:=z6b_ k n s ((j+1:Nat):Int) (some true)) ?_ ?_ (n:=k) (by rw [hbl]; split <;> omega)
    ·refine Eq.trans inner ?_
     have e:=zoq_ (k:=k) (s:=s) (o:=(arrN s.1 j).length) (l:=z1s_ s.1 j)
     by_cases q:chk k s (arrN s.1 j).length (z1s_ s.1 j)
     ·rw [if_pos (e.2 q),if_pos (decide_eq_true q)]
     ·rw [if_neg (fun z=>q (e.1 z)),if_neg (by simpa using q)]
    ·intro m i hi
     have h1:1<(s.1[j]).length:=by
      apply Classical.byContradiction
      intro hn
      rw [hbl,if_neg hn] at hi; omega
     rw [if_pos h1] at hbl hfl
     have hil:i<(s.1[j]).length:=by omega
     have hil':(i:Int)<((s.1[j]).length:Int):=by omega
     have h1':(1:Int)<((s.1[j]).length:Int):=by omega
     have hw2:=zi_ (i:=i) (by omega)
     have hml:(arrN s.1 j).length+i<s.2.2.2.length:=by omega
     have hgm:s.2.2.2[(arrN s.1 j).length+i]?=some s.2.2.2[(arrN s.1 j).length+i]:=List.getElem?_eq_getElem hml
     have hcells:=hs.cells _ (List.mem_of_getElem? hgm)
     have hfi:i<(zr_ s.1 s.1[j]).length:=by omega
     have hga:=zuh_ hg hfi
     have hgd:(zr_ s.1 s.1[j])[i]?=some ((zr_ s.1 s.1[j]).getD i 0):=by rw [List.getD_eq_getElem?_getD,List.getElem?_eq_getElem hfi]; rfl
     have hF:((zr_ s.1 s.1[j]).map fun i:Nat=>(i:Int))[i]?=some (((zr_ s.1 s.1[j]).getD i 0:Nat):Int):=by rw [List.getElem?_map,hgd]; rfl
     have hflt:(zr_ s.1 s.1[j]).getD i 0<s.1.length:=zon_ h hm (List.mem_of_getElem? hgd)
     obtain ⟨s1,_⟩:=z7s_ hS hj
     obtain ⟨s2,_⟩:=z7s_ hS hflt
     simp only [z9s_,zie_,Int.natCast_nonneg,if_true,Int.toNat_natCast,hg,Option.bind_some,hil',h1',decide_true,zoo_ hk h (show j≤s.1.length by omega) (show i≤4 by omega),hgm,zuf_ hk h hg,List.length_map,hfi,and_self,hF,(zop_ hk hcells).1,s1,s2,hw2]
     have e:chk1 k s (arrN s.1 j).length (z1s_ s.1 j) i=okA k s (j,i,(zr_ s.1 s.1[j]).getD i 0) s.2.2.2[(arrN s.1 j).length+i]:=by unfold chk1; rw [hga,hgm]
     rw [e]
     unfold okA
     generalize s.2.2.2[(arrN s.1 j).length+i]=mm
     generalize hv:s.2.2.1.getD ((zr_ s.1 s.1[j]).getD i 0) 0=v
     generalize hu:s.2.2.1.getD j 0=u
     clear hv hu
     cases matB k mm
     ·simp
     ·by_cases q1:mm.1=s.2.1
      ·by_cases q2:mm.2.1=u
       ·by_cases q3:mm.2.2.1=v <;> simp [q1,q2,q3]
       ·simp [q1,q2]
      ·simp [q1]
    ·intro m
     have hstop:¬ (((z1s_ s.1 j).length:Int)<((s.1[j]).length:Int)∧(1:Int)<((s.1[j]).length:Int)):=by
      rw [hbl]; split <;> omega
     simp only [z9s_,Int.natCast_nonneg,if_true,Int.toNat_natCast,hg,Option.bind_some,hw]
     by_cases q1:((z1s_ s.1 j).length:Int)<((s.1[j]).length:Int)
     ·have q2:¬ (1:Int)<((s.1[j]).length:Int):=fun z=>hstop ⟨q1,z⟩
      rw [decide_eq_true q1,if_pos rfl,decide_eq_false q2,if_neg (by simp)]
     ·rw [decide_eq_false q1,if_neg (by simp)]
   ·intro n
    simp only [z6b_,Int.lt_irrefl,decide_false,Bool.false_eq_true,if_false]
  ·rw [decide_eq_false (show ¬ (s.2.2.2.length:Int)=((arrN s.1 s.1.length).length:Int) by omega),if_pos (by simp),decide_eq_false (fun z=>hN z.1)]
open Classical in
theorem zun_ {k:Nat} (hk:KK≤k) {s:She} (hs:smallSh s):ze5_ k s=some (sheB k s):=by
 have hK:=zj_
 unfold ze5_ sheB
 obtain ⟨p1,p2,p3⟩:=zk3_ hk s.2.1
 rw [zua_ hk hs.cx,p2,zue_ hk hs.cx hs.st]
 cases hcx:cxB s.1 with
 | false=>simp
 | true =>
 cases z6i_ k s.2.1 with
 | false=>simp
 | true =>
 cases hst:stB s.1 s.2.2.1 with
 | false=>simp
 | true =>
  have h:=z6h_.1 hcx
  have hS:=zk0_ hst
  have hcl:=h.len
  have hal:=z7t_ h s.1.length (Nat.le_refl _)
  simp only [Option.bind_some,Bool.not_true,Bool.false_eq_true,if_false,zuj_ hk h,Bool.true_and,List.length_map]
  have:=z2l_ (L:=fun n i=>z8x_ k n ((arrN s.1 s.1.length).length:Int) i ((arrN s.1 s.1.length).map toI3) s (fun q_11 v_12=>some (decide ((List.length q_11:Int)=(List.length v_12.2.2.2:Int))))) (b:=(arrN s.1 s.1.length).length) (p:=chk1 k s 0 (arrN s.1 s.1.length)) (r:=some false) (e:=some (decide ((arrN s.1 s.1.length).length=s.2.2.2.length))) ?_ ?_ (n:=k) (by omega)
  ·rw [this]
   have e:=zoq_ (k:=k) (s:=s) (o:=0) (l:=arrN s.1 s.1.length)
   by_cases q:chk k s 0 (arrN s.1 s.1.length)
   ·rw [if_pos (e.2 q)]
    congr 1
    exact decide_eq_decide.2 ⟨fun z=>⟨z.symm,q⟩,fun z=>z.1.symm⟩
   ·rw [if_neg (fun z=>q (e.1 z)),decide_eq_false (fun z=>q z.2)]
  ·intro n i hi
   have hlt:(i:Int)<((arrN s.1 s.1.length).length:Int):=by omega
   have hw:=zi_ (i:=i) (by omega)
   have hg:(arrN s.1 s.1.length)[i]?=some (arrN s.1 s.1.length)[i]:=List.getElem?_eq_getElem hi
   have hF:((arrN s.1 s.1.length).map toI3)[i]?=some (toI3 (arrN s.1 s.1.length)[i]):=by rw [List.getElem?_map,hg]; rfl
   obtain ⟨a1,a2⟩:=zul_ h (Nat.le_refl _) hg
   obtain ⟨s1,_⟩:=z7s_ hS a1
   obtain ⟨s2,_⟩:=z7s_ hS a2
   have hch:chk1 k s 0 (arrN s.1 s.1.length) i=(match s.2.2.2[i]? with | some m=>okA k s (arrN s.1 s.1.length)[i] m | none=>false):=by unfold chk1; rw [hg,Nat.zero_add]
   rw [hch]
   generalize (arrN s.1 s.1.length)[i]=a at hF s1 s2
   simp only [z8x_,List.length_map,hlt,hi,decide_true,if_true,Int.natCast_nonneg,Int.toNat_natCast,and_self,hF,Option.bind_some,hw,toI3]
   by_cases hml:i<s.2.2.2.length
   ·have hgm:s.2.2.2[i]?=some s.2.2.2[i]:=List.getElem?_eq_getElem hml
    have hcells:=hs.cells _ (List.mem_of_getElem? hgm)
    rw [decide_eq_false (by omega),if_neg (by simp),hgm,s1,s2]
    simp only [Option.bind_some,zi4_,(zop_ hk hcells).2.1]
    show _=if okA k s a s.2.2.2[i]=true then _ else _
    unfold okA
    generalize s.2.2.2[i]=mm
    generalize s.2.2.1.getD a.1 0=u
    generalize s.2.2.1.getD a.2.2 0=v
    cases matB k mm
    ·simp
    ·by_cases q1:mm.1=s.2.1
     ·by_cases q2:mm.2.1=u
      ·by_cases q3:mm.2.2.1=v <;> simp [q1,q2,q3]
      ·simp [q1,q2]
     ·simp [q1]
   ·rw [decide_eq_true (by omega),if_pos rfl,List.getElem?_eq_none (by omega)]
    rfl
  ·intro n
   simp only [z8x_,Int.lt_irrefl,decide_false,Bool.false_eq_true,if_false,List.length_map]
   exact congrArg some (decide_eq_decide.2 (by omega))
theorem zgc_ {S R:Type} {L:Nat→Int→S→R} {b:Nat} {st:Nat→S} {e:R} (h1:∀ n (i:Nat),i<b→L (n+1) (i:Int) (st i)=L n ((i+1:Nat):Int) (st (i+1))) (h2:∀ n,L (n+1) (b:Int) (st b)=e):∀ {n:Nat},b<n→L n 0 (st 0)=e:=by
 have key:∀ (d i n:Nat),i+d=b→d<n→L n (i:Int) (st i)=e:=by
  intro d
  induction d with
  | zero =>
   intro i n hi hn
   obtain ⟨n,rfl⟩:∃ m,n=m+1:=⟨n-1,by omega⟩
   have:i=b:=by omega
   subst this
   exact h2 n
  | succ d ih =>
   intro i n hi hn
   obtain ⟨n,rfl⟩:∃ m,n=m+1:=⟨n-1,by omega⟩
   rw [h1 n i (by omega)]
   exact ih (i+1) n (by omega) (by omega)
 intro n hn
 exact key b 0 n (by omega) hn
def excD (v:Int) (a:Option Edg) (x:Option Int):Int:=match a,x with
 | some a,some x=>(if a.2.1=v then x else 0)-(if a.1=v then x else 0)
 | _,_=>0
theorem zk4_ (v:Int) (a:Edg) (x:Int):excD v (some a) (some x)=(if a.2.1=v then x else 0)-(if a.1=v then x else 0):=rfl
def excN (A:List Edg) (f:List Int) (v:Int):Nat→Int
 | 0=>0
 | i+1=>excN A f v i+excD v A[i]? f[i]?
theorem zbt_ {A:List Edg} {f:List Int} (hf:∀ x∈f,0≤x∧x≤1000000) (v:Int):∀ i:Nat,-(i:Int)*1000000≤excN A f v i∧excN A f v i≤(i:Int)*1000000
 | 0=>by simp [excN]
 | i+1=>by
  have ih:=zbt_ (A:=A) hf v i
  have hd:-1000000≤excD v A[i]? f[i]?∧excD v A[i]? f[i]?≤1000000:=by
   cases A[i]? with
   | none=>exact ⟨by simp [excD],by simp [excD]⟩
   | some a =>
    cases hx:f[i]? with
    | none=>exact ⟨by simp [excD],by simp [excD]⟩
    | some x =>
     have hb:=hf x (List.mem_of_getElem? hx)
     rw [zk4_]
     split <;> split <;> omega
  have e:excN A f v (i+1)=excN A f v i+excD v A[i]? f[i]?:=rfl
  rw [e]
  omega
def z49_ (n:Net) (f:List Int) (i:Nat):Bool:=match n.2.2.2[i]?,f[i]? with | some a,some x=>decide (0≤x∧x≤a.2.2) | _,_=>false
def z4r_ (n:Net) (f:List Int):Bool:=decide (f.length=n.2.2.2.length)&&((List.range n.2.2.2.length).all (z49_ n f)&&(List.range n.1.toNat).all fun j=>decide ((j:Int)=n.2.1)||(decide ((j:Int)=n.2.2.1)||decide (excN n.2.2.2 f (j:Int) n.2.2.2.length=0)))
theorem z3q_ {n:Net} (h:netB n=true):(2≤n.1∧n.1≤12)∧(0≤n.2.1∧n.2.1≤n.1-1)∧(0≤n.2.2.1∧n.2.2.1≤n.1-1)∧n.2.2.2.length≤24∧∀ (i:Nat) a,n.2.2.2[i]?=some a→(0≤a.1∧a.1≤n.1-1)∧(0≤a.2.1∧a.2.1≤n.1-1)∧a.2.2≤1000000∧0≤a.2.2:=by
 unfold netB at h
 simp only [Bool.and_eq_true,decide_eq_true_eq,List.all_eq_true] at h
 obtain ⟨h1,h2,h3,h4,h5,h6⟩:=h
 have hw:z0_ (n.1-1)=n.1-1:=w_id (by omega) (by omega)
 rw [hw] at h2 h3
 refine ⟨h1,h2,h3,h6,fun i a ha=>?_⟩
 have:=h5 i (List.mem_range.2 (List.getElem?_eq_some_iff.1 ha).1)
 unfold arcB at this
 rw [ha] at this
 simp only [Bool.and_eq_true,decide_eq_true_eq] at this
 rw [hw] at this
 exact ⟨this.1,this.2.1,this.2.2.2.1.2,this.2.2.2.1.1⟩
theorem zos_ {k:Nat} (hk:KK≤k) {n:Net} {f:List Int} (hn:n.2.2.2.length≤24) (hl:f.length=n.2.2.2.length) (hf:∀ x∈f,0≤x∧x≤1000000) (v:Int):zbm_ k n f v=some (excN n.2.2.2 f v n.2.2.2.length):=by
 have hK:=zj_
 unfold zbm_
 refine zgc_ (S:=Int) (L:=fun m i s=>z5i_ k m n f v s i (fun sum_7=>some sum_7)) (b:=n.2.2.2.length) (st:=excN n.2.2.2 f v) ?_ ?_ (n:=k) (by omega)
 ·intro m i hi
  have hlt:(i:Int)<(n.2.2.2.length:Int):=by omega
  have hw:=zi_ (i:=i) (by omega)
  have hg:n.2.2.2[i]?=some n.2.2.2[i]:=List.getElem?_eq_getElem hi
  have hgf:f[i]?=some f[i]:=List.getElem?_eq_getElem (by omega)
  have hb:=hf f[i] (List.getElem_mem (by omega))
  have ih:=zbt_ (A:=n.2.2.2) hf v i
  simp only [z5i_,hlt,decide_true,if_true,Int.natCast_nonneg,Int.toNat_natCast,hg,hgf,Option.bind_some,hw,excN,zk4_]
  generalize n.2.2.2[i]=a at *
  generalize f[i]=x at *
  generalize excN n.2.2.2 f v i=s at *
  by_cases c1:a.2.1=v <;> by_cases c2:a.1=v
  ·simp only [c1,c2,decide_true,if_true]
   rw [show z0_ (s+x)=s+x from w_id (by omega) (by omega),show z0_ (s+x-x)=s+x-x from w_id (by omega) (by omega)]
   congr 1; omega
  ·simp only [c1,c2,decide_true,decide_false,if_true,if_false,Bool.false_eq_true]
   rw [show z0_ (s+x)=s+x from w_id (by omega) (by omega)]
   congr 1; omega
  ·simp only [c1,c2,decide_true,decide_false,if_true,if_false,Bool.false_eq_true]
   rw [show z0_ (s-x)=s-x from w_id (by omega) (by omega)]
   congr 1; omega
  ·simp only [c1,c2,decide_false,if_false,Bool.false_eq_true]
   congr 1; omega
 ·intro m
  simp only [z5i_,Int.lt_irrefl,decide_false,Bool.false_eq_true,if_false]
def excL (n:Net) (f:List Int) (i:Nat):List Int:=(List.range n.1.toNat).map fun (j:Nat)=>excN n.2.2.2 f (j:Int) i
theorem zgd_ {n:Net} {f:List Int} {i:Nat} {v:Int} (h0:0≤v) (h1:v≤n.1-1):(excL n f i)[v.toNat]?=some (excN n.2.2.2 f v i):=by
 have:v.toNat<n.1.toNat:=by omega
 unfold excL
 rw [List.getElem?_map,List.getElem?_range this,Option.map_some,Int.toNat_of_nonneg h0]
theorem zuo_ {n:Net} {f:List Int} {i:Nat} {a:Edg} {x:Int} (ha:n.2.2.2[i]?=some a) (hx:f[i]?=some x) (h1:0≤a.1∧a.1≤n.1-1) (h2:0≤a.2.1∧a.2.1≤n.1-1) :
  (((excL n f i).set a.2.1.toNat (excN n.2.2.2 f a.2.1 i+x)).set a.1.toNat ((if a.2.1=a.1 then excN n.2.2.2 f a.1 i+x else excN n.2.2.2 f a.1 i)-x))=excL n f (i+1):=by
 apply List.ext_getElem?
 intro j
 have hlen:(excL n f i).length=n.1.toNat:=by simp [excL]
 rw [List.getElem?_set,List.getElem?_set,List.length_set,hlen]
 unfold excL
 rw [List.getElem?_map,List.getElem?_map]
 by_cases hj:j<n.1.toNat
 ·rw [List.getElem?_range hj,Option.map_some,Option.map_some]
  have e1:(a.1.toNat=j)↔a.1=(j:Int):=by omega
  have e2:(a.2.1.toNat=j)↔a.2.1=(j:Int):=by omega
  simp only [excN,zk4_,ha,hx,e1,e2,show a.1.toNat<n.1.toNat by omega,show a.2.1.toNat<n.1.toNat by omega,if_true]
  by_cases c1:a.1=(j:Int) <;> by_cases c2:a.2.1=(j:Int)
  ·rw [if_pos c1,if_pos c2,if_pos c1,if_pos (c2.trans c1.symm),c1]
   congr 1; omega
  ·rw [if_pos c1,if_neg c2,if_pos c1,if_neg (fun e=>c2 (e.trans c1)),c1]
   congr 1; omega
  ·rw [if_neg c1,if_pos c2,if_pos c2,if_neg c1,c2]
   congr 1; omega
  ·rw [if_neg c1,if_neg c2,if_neg c2,if_neg c1]
   congr 1; omega
 ·have hn:(List.range n.1.toNat)[j]?=none:=List.getElem?_eq_none (by simp; omega)
  rw [hn,Option.map_none,Option.map_none,if_neg (by omega),if_neg (by omega)]
theorem zot_ {k:Nat} (hk:KK≤k) {n:Net} {f:List Int} (h:netB n=true) (hl:f.length=n.2.2.2.length) (hf:∀ x∈f,0≤x∧x≤1000000):zbd_ k n f=some (excL n f n.2.2.2.length):=by
 have hK:=zj_
 obtain ⟨p1,p2,p3,p4,p5⟩:=z3q_ h
 have h0:excL n f 0=List.replicate n.1.toNat 0:=by
  unfold excL
  simp only [excN]
  apply List.ext_getElem?
  intro j
  by_cases hj:j<n.1.toNat
  ·simp [hj]
  ·simp [hj]
 unfold zbd_
 rw [if_pos ⟨by omega,by omega,by unfold LIM; omega⟩,← h0]
 refine zgc_ (S:=List Int) (L:=fun m i s=>z90_ k m f n.2.2.2 (n.2.2.2.length:Int) i s (fun q_11=>some q_11)) (b:=n.2.2.2.length) (st:=excL n f) ?_ ?_ (n:=k) (by omega)
 ·intro m i hi
  have hlt:(i:Int)<(n.2.2.2.length:Int):=by omega
  have hw:=zi_ (i:=i) (by omega)
  have hg:n.2.2.2[i]?=some n.2.2.2[i]:=List.getElem?_eq_getElem hi
  have hgf:f[i]?=some f[i]:=List.getElem?_eq_getElem (by omega)
  have hb:=hf f[i] (List.getElem_mem (by omega))
  obtain ⟨q1,q2,q3,q4⟩:=p5 i _ hg
  have st:=zuo_ (f:=f) hg hgf q1 q2
  have hlen:(excL n f i).length=n.1.toNat:=by simp [excL]
  generalize n.2.2.2[i]=a at *
  generalize f[i]=x at *
  have i1:=zbt_ (A:=n.2.2.2) hf a.1 i
  have i2:=zbt_ (A:=n.2.2.2) hf a.2.1 i
  have g1:(excL n f i)[a.2.1.toNat]?=some (excN n.2.2.2 f a.2.1 i):=zgd_ q2.1 q2.2
  have g2:(excL n f i)[a.1.toNat]?=some (excN n.2.2.2 f a.1 i):=zgd_ q1.1 q1.2
  have w1:z0_ (excN n.2.2.2 f a.2.1 i+x)=excN n.2.2.2 f a.2.1 i+x:=w_id (by omega) (by omega)
  have g3:((excL n f i).set a.2.1.toNat (excN n.2.2.2 f a.2.1 i+x))[a.1.toNat]?=some (if a.2.1=a.1 then excN n.2.2.2 f a.1 i+x else excN n.2.2.2 f a.1 i):=by
   rw [List.getElem?_set]
   by_cases e:a.2.1=a.1
   ·rw [if_pos (by rw [e]),if_pos (by rw [hlen]; omega),if_pos e,e]
   ·rw [if_neg (by omega),g2,if_neg e]
  have w2:z0_ ((if a.2.1=a.1 then excN n.2.2.2 f a.1 i+x else excN n.2.2.2 f a.1 i)-x)=(if a.2.1=a.1 then excN n.2.2.2 f a.1 i+x else excN n.2.2.2 f a.1 i)-x:=by
   split <;> exact w_id (by omega) (by omega)
  have c1:0≤a.2.1∧a.2.1.toNat<(excL n f i).length:=⟨q2.1,by rw [hlen]; omega⟩
  have c2:0≤a.1∧a.1.toNat<((excL n f i).set a.2.1.toNat (excN n.2.2.2 f a.2.1 i+x)).length:=⟨q1.1,by rw [List.length_set,hlen]; omega⟩
  simp only [z90_,hlt,decide_true,if_true,Int.natCast_nonneg,Int.toNat_natCast,hg,hgf,Option.bind_some,hw,g1,w1,c1.1,c1.2,c2.1,c2.2,and_self,g3,w2,st]
 ·intro m
  simp only [z90_,Int.lt_irrefl,decide_false,Bool.false_eq_true,if_false]
theorem zk5_ {n:Net} {f:List Int} (h:netB n=true) (hl:f.length=n.2.2.2.length) (hc:(List.range n.2.2.2.length).all (z49_ n f)=true):∀ x∈f,0≤x∧x≤1000000:=by
 obtain ⟨_,_,_,_,p5⟩:=z3q_ h
 intro x hx
 obtain ⟨i,hi⟩:=List.getElem?_of_mem hx
 have hlt:=(List.getElem?_eq_some_iff.1 hi).1
 have:=List.all_eq_true.1 hc i (List.mem_range.2 (by omega))
 unfold z49_ at this
 have hg:n.2.2.2[i]?=some n.2.2.2[i]:=List.getElem?_eq_getElem (by omega)
 rw [hg,hi] at this
 have h2:=(p5 i _ hg).2.2.1
 simp only [decide_eq_true_eq] at this
 omega
theorem zup_ {k:Nat} (hk:KK≤k) {n:Net} {f:List Int} (h:netB n=true) (hfl:f.length≤1048576):zfk_ k n f=some (z4r_ n f):=by
 have hK:=zj_
 obtain ⟨p1,p2,p3,p4,p5⟩:=z3q_ h
 unfold zfk_ z4r_
 by_cases hl:f.length=n.2.2.2.length
 case neg =>
  have:¬ (f.length:Int)=(n.2.2.2.length:Int):=by omega
  rw [decide_eq_false this,decide_eq_false hl]; simp
 rw [decide_eq_true (by omega:(f.length:Int)=(n.2.2.2.length:Int)),decide_eq_true hl]
 simp only [Bool.not_true,Bool.false_eq_true,if_false,Bool.true_and]
 have hl0:z7h_ k k n f 0 (fun n_4 flow_5=>z3o_ k k n_4 flow_5 0 (some true))=if (List.range n.2.2.2.length).all (z49_ n f)=true then z3o_ k k n f 0 (some true) else some false:=by
  refine z2l_ (L:=fun m i=>z7h_ k m n f i (fun n_4 flow_5=>z3o_ k k n_4 flow_5 0 (some true))) (b:=n.2.2.2.length) (p:=z49_ n f) (r:=some false) ?_ ?_ (n:=k) (by omega)
  ·intro m i hi
   have hlt:(i:Int)<(f.length:Int):=by omega
   have hw:=zi_ (i:=i) (by omega)
   have hg:n.2.2.2[i]?=some n.2.2.2[i]:=List.getElem?_eq_getElem hi
   have hgf:f[i]?=some f[i]:=List.getElem?_eq_getElem (by omega)
   simp only [z7h_,hlt,decide_true,if_true,Int.natCast_nonneg,Int.toNat_natCast,hg,hgf,Option.bind_some,hw,z47_,z49_]
   cases decide (0≤f[i]∧f[i]≤(n.2.2.2[i]).2.2) <;> simp
  ·intro m
   have:¬ (n.2.2.2.length:Int)<(f.length:Int):=by omega
   simp only [z7h_,this,decide_false,Bool.false_eq_true,if_false]
 rw [hl0]
 cases hc:(List.range n.2.2.2.length).all (z49_ n f)
 ·simp
 have hf:=zk5_ h hl hc
 simp only [if_true,Bool.true_and]
 have hN:(n.1.toNat:Int)=n.1:=Int.toNat_of_nonneg (by omega)
 have hl1:z3o_ k k n f 0 (some true)=if (List.range n.1.toNat).all (fun j=>decide ((j:Int)=n.2.1)||(decide ((j:Int)=n.2.2.1)||decide (excN n.2.2.2 f (j:Int) n.2.2.2.length=0)))=true then some true else some false:=by
  refine z2l_ (L:=fun m i=>z3o_ k m n f i (some true)) (b:=n.1.toNat) (r:=some false) ?_ ?_ (n:=k) (by omega)
  ·intro m i hi
   have hlt:(i:Int)<n.1:=by omega
   have hw:=zi_ (i:=i) (by omega)
   simp only [z3o_,hlt,decide_true,if_true,zos_ hk p4 hl hf,Option.bind_some,hw]
   cases decide ((i:Int)=n.2.1) <;> cases decide ((i:Int)=n.2.2.1) <;> cases decide (excN n.2.2.2 f (i:Int) n.2.2.2.length=0) <;> simp
  ·intro m
   have:¬ (n.1.toNat:Int)<n.1:=by omega
   simp only [z3o_,this,decide_false,Bool.false_eq_true,if_false]
 rw [hl1]
 cases (List.range n.1.toNat).all (fun j=>decide ((j:Int)=n.2.1)||(decide ((j:Int)=n.2.2.1)||decide (excN n.2.2.2 f (j:Int) n.2.2.2.length=0))) <;> simp
theorem zuq_ {k:Nat} (hk:KK≤k) {n:Net} {f:List Int} (h:netB n=true) (hfl:f.length≤1048576):zec_ k n f=some (z4r_ n f):=by
 have hK:=zj_
 obtain ⟨p1,p2,p3,p4,p5⟩:=z3q_ h
 unfold zec_ z4r_
 by_cases hl:f.length=n.2.2.2.length
 case neg =>
  have:¬ (f.length:Int)=(n.2.2.2.length:Int):=by omega
  rw [decide_eq_false this,decide_eq_false hl]; simp
 rw [decide_eq_true (by omega:(f.length:Int)=(n.2.2.2.length:Int)),decide_eq_true hl]
 simp only [Bool.not_true,Bool.false_eq_true,if_false,Bool.true_and]
 have hl0:∀ E:List Int→Net→Option Bool,z75_ k k f n.2.2.2 (n.2.2.2.length:Int) 0 n E=if (List.range n.2.2.2.length).all (z49_ n f)=true then E f n else some false:=by
  intro E
  refine z2l_ (L:=fun m i=>z75_ k m f n.2.2.2 (n.2.2.2.length:Int) i n E) (b:=n.2.2.2.length) (p:=z49_ n f) (r:=some false) ?_ ?_ (n:=k) (by omega)
  ·intro m i hi
   have hlt:(i:Int)<(n.2.2.2.length:Int):=by omega
   have hw:=zi_ (i:=i) (by omega)
   have hg:n.2.2.2[i]?=some n.2.2.2[i]:=List.getElem?_eq_getElem hi
   have hgf:f[i]?=some f[i]:=List.getElem?_eq_getElem (by omega)
   simp only [z75_,hlt,decide_true,if_true,Int.natCast_nonneg,Int.toNat_natCast,hg,hgf,Option.bind_some,hw,z46_,z49_]
   cases decide (0≤f[i]∧f[i]≤(n.2.2.2[i]).2.2) <;> simp
  ·intro m
   simp only [z75_,Int.lt_irrefl,decide_false,Bool.false_eq_true,if_false]
 rw [hl0]
 cases hc:(List.range n.2.2.2.length).all (z49_ n f)
 ·simp
 have hf:=zk5_ h hl hc
 simp only [if_true,Bool.true_and,zot_ hk h hl hf,Option.bind_some]
 have hlen:(excL n f n.2.2.2.length).length=n.1.toNat:=by simp [excL]
 rw [hlen]
 have hl1:z5a_ k k (n.1.toNat:Int) 0 (excL n f n.2.2.2.length) n (some true)=if (List.range n.1.toNat).all (fun j=>decide ((j:Int)=n.2.1)||(decide ((j:Int)=n.2.2.1)||decide (excN n.2.2.2 f (j:Int) n.2.2.2.length=0)))=true then some true else some false:=by
  refine z2l_ (L:=fun m i=>z5a_ k m (n.1.toNat:Int) i (excL n f n.2.2.2.length) n (some true)) (b:=n.1.toNat) (r:=some false) ?_ ?_ (n:=k) (by omega)
  ·intro m i hi
   have hlt:(i:Int)<(n.1.toNat:Int):=by omega
   have hw:=zi_ (i:=i) (by omega)
   have hg:(excL n f n.2.2.2.length)[i]?=some (excN n.2.2.2 f (i:Int) n.2.2.2.length):=by
    have:=zgd_ (n:=n) (f:=f) (i:=n.2.2.2.length) (v:=(i:Int)) (by omega) (by omega)
    simpa using this
   have hin:i<(excL n f n.2.2.2.length).length:=by rw [hlen]; exact hi
   simp only [z5a_,hlt,decide_true,if_true,Int.natCast_nonneg,Int.toNat_natCast,hin,and_self,hg,Option.bind_some,hw]
   cases decide ((i:Int)=n.2.1) <;> cases decide ((i:Int)=n.2.2.1) <;> cases decide (excN n.2.2.2 f (i:Int) n.2.2.2.length=0) <;> simp
  ·intro m
   simp only [z5a_,Int.lt_irrefl,decide_false,Bool.false_eq_true,if_false]
 rw [hl1]
 cases (List.range n.1.toNat).all (fun j=>decide ((j:Int)=n.2.1)||(decide ((j:Int)=n.2.2.1)||decide (excN n.2.2.2 f (j:Int) n.2.2.2.length=0))) <;> simp
def cutB (n:Net) (s:List Int):Bool:=decide ((∀ x∈s,0≤x∧x≤n.1-1)∧s.Pairwise (fun a b:Int=>a<b))&&(s.contains n.2.1&&!s.contains n.2.2.1)
theorem zur_ {k:Nat} (hk:KK≤k) {n:Net} {s:List Int} (h:netB n=true) (hs:s.length≤1048576):zfl_ k n s=some (cutB n s):=by
 obtain ⟨p1,_⟩:=z3q_ h
 have hw:z0_ (n.1-1)=n.1-1:=w_id (by omega) (by omega)
 unfold zfl_ cutB
 rw [hw,znw_ hk (by omega)]
 simp only [Option.bind_some,znt_ hk (show s.length≤1000000000 by omega)]
 cases decide ((∀ x∈s,0≤x∧x≤n.1-1)∧s.Pairwise (fun a b:Int=>a<b)) <;> cases s.contains n.2.1 <;> simp
theorem zus_ {k:Nat} (hk:KK≤k) {n:Net} {s:List Int} (h:netB n=true) (hs:s.length≤1048576):zed_ k n s=some (cutB n s):=by
 obtain ⟨p1,_⟩:=z3q_ h
 have e:decide ((∀ x∈s,0≤x∧x≤n.1-1)∧s.Pairwise (fun a b:Int=>a<b))=(decide (s.Pairwise (fun a b:Int=>a<b))&&s.all (fun x=>decide (0≤x∧x≤n.1-1))):=by
  rw [Bool.eq_iff_iff]
  simp only [decide_eq_true_eq,Bool.and_eq_true,List.all_eq_true]
  exact ⟨fun h=>⟨h.2,h.1⟩,fun h=>⟨h.2,h.1⟩⟩
 unfold zed_ cutB
 rw [znx_ hk (by omega),e]
 simp only [Option.bind_some,zjo_ hk hs (show -1000000≤n.1∧n.1≤1000000 by omega),znu_ hk (show s.length≤1000000000 by omega)]
 cases decide (s.Pairwise (fun a b:Int=>a<b)) <;> cases s.all (fun x=>decide (0≤x∧x≤n.1-1)) <;> cases s.contains n.2.1 <;> simp
def capN (A:List Edg) (s:List Int):Nat→Int
 | 0=>0
 | i+1=>capN A s i+(match A[i]? with | some a=>(if (s.contains a.1&&!s.contains a.2.1)=true then a.2.2 else 0) | none=>0)
theorem zge_ {n:Net} (h:netB n=true) (s:List Int):∀ i:Nat,0≤capN n.2.2.2 s i∧capN n.2.2.2 s i≤(i:Int)*1000000
 | 0=>by simp [capN]
 | i+1=>by
  have ih:=zge_ h s i
  obtain ⟨_,_,_,_,p5⟩:=z3q_ h
  simp only [capN]
  split
  ·rename_i a ha
   have:=p5 i a ha
   split <;> omega
  ·omega
theorem zut_ {k:Nat} (hk:KK≤k) {n:Net} {s:List Int} (h:netB n=true) (hs:s.length≤1048576):zfm_ k n s=some (capN n.2.2.2 s n.2.2.2.length):=by
 have hK:=zj_
 obtain ⟨p1,p2,p3,p4,p5⟩:=z3q_ h
 unfold zfm_
 refine zgc_ (S:=Int) (L:=fun m i c=>z6c_ k m n s c i (fun sum_6=>some sum_6)) (b:=n.2.2.2.length) (st:=capN n.2.2.2 s) ?_ ?_ (n:=k) (by omega)
 ·intro m i hi
  have hlt:(i:Int)<(n.2.2.2.length:Int):=by omega
  have hw:=zi_ (i:=i) (by omega)
  have hg:n.2.2.2[i]?=some n.2.2.2[i]:=List.getElem?_eq_getElem hi
  have hb:=p5 i _ hg
  have ih:=zge_ h s i
  simp only [z6c_,hlt,decide_true,if_true,Int.natCast_nonneg,Int.toNat_natCast,hg,Option.bind_some,hw,znt_ hk (show s.length≤1000000000 by omega),capN]
  generalize n.2.2.2[i]=a at *
  generalize capN n.2.2.2 s i=c at *
  have w1:z0_ (c+a.2.2)=c+a.2.2:=w_id (by omega) (by omega)
  cases s.contains a.1 <;> cases s.contains a.2.1 <;> simp [w1]
 ·intro m
  simp only [z6c_,Int.lt_irrefl,decide_false,Bool.false_eq_true,if_false]
theorem zuu_ {k:Nat} (hk:KK≤k) {n:Net} {s:List Int} (h:netB n=true) (hs:s.length≤1048576):zee_ k n s=some (capN n.2.2.2 s n.2.2.2.length):=by
 have hK:=zj_
 obtain ⟨p1,p2,p3,p4,p5⟩:=z3q_ h
 unfold zee_
 refine zgc_ (S:=Int) (L:=fun m i c=>z69_ k m s c n.2.2.2 (n.2.2.2.length:Int) i (fun sum_4=>some sum_4)) (b:=n.2.2.2.length) (st:=capN n.2.2.2 s) ?_ ?_ (n:=k) (by omega)
 ·intro m i hi
  have hlt:(i:Int)<(n.2.2.2.length:Int):=by omega
  have hw:=zi_ (i:=i) (by omega)
  have hg:n.2.2.2[i]?=some n.2.2.2[i]:=List.getElem?_eq_getElem hi
  have hb:=p5 i _ hg
  have ih:=zge_ h s i
  simp only [z69_,hlt,decide_true,if_true,Int.natCast_nonneg,Int.toNat_natCast,hg,Option.bind_some,hw,znu_ hk (show s.length≤1000000000 by omega),capN]
  generalize n.2.2.2[i]=a at *
  generalize capN n.2.2.2 s i=c at *
  have w1:z0_ (c+a.2.2)=c+a.2.2:=w_id (by omega) (by omega)
  cases s.contains a.1 <;> cases s.contains a.2.1 <;> simp [w1]
 ·intro m
  simp only [z69_,Int.lt_irrefl,decide_false,Bool.false_eq_true,if_false]
noncomputable def z3r_ (n:Net) (f s:List Int):List Prb :=
 if z4r_ n f=true then (if cutB n s=true then (if capN n.2.2.2 s n.2.2.2.length-excN n.2.2.2 f n.2.2.1 n.2.2.2.length=0 then [] else [(4,([114,101,115,116],Lib.itoa (capN n.2.2.2 s n.2.2.2.length-excN n.2.2.2 f n.2.2.1 n.2.2.2.length)))]) else [(4,([115,105,100,101],[110,111,110,101]))]) else [(4,([102,108,111,119],[110,111,110,101]))]
theorem zk6_ {n:Net} {f:List Int} (h:netB n=true) (hb:z4r_ n f=true):f.length=n.2.2.2.length∧∀ x∈f,0≤x∧x≤1000000:=by
 unfold z4r_ at hb
 simp only [Bool.and_eq_true,decide_eq_true_eq] at hb
 exact ⟨hb.1,zk5_ h hb.1 hb.2.1⟩
theorem zk7_ {n:Net} {f s:List Int} (h:netB n=true) (hb:z4r_ n f=true):z0_ (capN n.2.2.2 s n.2.2.2.length-excN n.2.2.2 f n.2.2.1 n.2.2.2.length)=capN n.2.2.2 s n.2.2.2.length-excN n.2.2.2 f n.2.2.1 n.2.2.2.length∧-9223372036854775808≤capN n.2.2.2 s n.2.2.2.length-excN n.2.2.2 f n.2.2.1 n.2.2.2.length∧capN n.2.2.2 s n.2.2.2.length-excN n.2.2.2 f n.2.2.1 n.2.2.2.length≤9223372036854775807:=by
 obtain ⟨h1,h2⟩:=zk6_ h hb
 obtain ⟨_,_,_,p4,_⟩:=z3q_ h
 have b1:=zge_ h s n.2.2.2.length
 have b2:=zbt_ (A:=n.2.2.2) h2 n.2.2.1 n.2.2.2.length
 have:(n.2.2.2.length:Int)*1000000≤24*1000000:=by omega
 exact ⟨w_id (by omega) (by omega),by omega,by omega⟩
theorem zuv_ {k:Nat} (hk:KK≤k) {w:She×Int×List Int×List Int×Net×List Int×List Int×(Int×Int×List Edg)×List Int} (h:netB w.2.2.2.2.1=true) (h1:w.2.2.2.2.2.1.length≤1048576) (h2:w.2.2.2.2.2.2.1.length≤1048576):zfn_ k w=some (z3r_ w.2.2.2.2.1 w.2.2.2.2.2.1 w.2.2.2.2.2.2.1):=by
 obtain ⟨_,_,p3,p4,_⟩:=z3q_ h
 unfold zfn_ z3r_
 rw [zup_ hk h h1]
 cases hb:z4r_ w.2.2.2.2.1 w.2.2.2.2.2.1
 ·simp
 obtain ⟨q1,q2⟩:=zk6_ h hb
 obtain ⟨r1,r2,r3⟩:=zk7_ (s:=w.2.2.2.2.2.2.1) h hb
 simp only [Option.bind_some,Bool.not_true,Bool.false_eq_true,if_false,if_true,zur_ hk h h2]
 cases hc:cutB w.2.2.2.2.1 w.2.2.2.2.2.2.1
 ·simp
 simp only [Bool.not_true,Bool.false_eq_true,if_false,if_true,zut_ hk h h2,zos_ hk p4 q1 q2,Option.bind_some,r1]
 by_cases h0:capN w.2.2.2.2.1.2.2.2 w.2.2.2.2.2.2.1 w.2.2.2.2.1.2.2.2.length-excN w.2.2.2.2.1.2.2.2 w.2.2.2.2.2.1 w.2.2.2.2.1.2.2.1 w.2.2.2.2.1.2.2.2.length=0
 ·rw [decide_eq_true h0]; simp [h0]
 ·rw [decide_eq_false h0,ztq_ hk r2 r3]; simp [h0]
theorem zuw_ {k:Nat} (hk:KK≤k) {w:She×Int×List Int×List Int×Net×List Int×List Int×(Int×Int×List Edg)×List Int} (h:netB w.2.2.2.2.1=true) (h1:w.2.2.2.2.2.1.length≤1048576) (h2:w.2.2.2.2.2.2.1.length≤1048576):zeg_ k w=some (z3r_ w.2.2.2.2.1 w.2.2.2.2.2.1 w.2.2.2.2.2.2.1):=by
 obtain ⟨_,_,p3,p4,_⟩:=z3q_ h
 unfold zeg_ z3r_
 rw [zuq_ hk h h1]
 cases hb:z4r_ w.2.2.2.2.1 w.2.2.2.2.2.1
 ·simp
 obtain ⟨q1,q2⟩:=zk6_ h hb
 obtain ⟨r1,r2,r3⟩:=zk7_ (s:=w.2.2.2.2.2.2.1) h hb
 simp only [Option.bind_some,Bool.not_true,Bool.false_eq_true,if_false,if_true,zus_ hk h h2]
 cases hc:cutB w.2.2.2.2.1 w.2.2.2.2.2.2.1
 ·simp
 have hlen:(excL w.2.2.2.2.1 w.2.2.2.2.2.1 w.2.2.2.2.1.2.2.2.length).length=w.2.2.2.2.1.1.toNat:=by simp [excL]
 have hg:=zgd_ (n:=w.2.2.2.2.1) (f:=w.2.2.2.2.2.1) (i:=w.2.2.2.2.1.2.2.2.length) p3.1 p3.2
 have hin:0≤w.2.2.2.2.1.2.2.1∧w.2.2.2.2.1.2.2.1.toNat<(excL w.2.2.2.2.1 w.2.2.2.2.2.1 w.2.2.2.2.1.2.2.2.length).length:=⟨p3.1,by rw [hlen]; omega⟩
 simp only [Bool.not_true,Bool.false_eq_true,if_false,if_true,zuu_ hk h h2,zot_ hk h q1 q2,Option.bind_some]
 rw [if_pos hin]
 simp only [hg,Option.bind_some,r1]
 by_cases h0:capN w.2.2.2.2.1.2.2.2 w.2.2.2.2.2.2.1 w.2.2.2.2.1.2.2.2.length-excN w.2.2.2.2.1.2.2.2 w.2.2.2.2.2.1 w.2.2.2.2.1.2.2.1 w.2.2.2.2.1.2.2.2.length=0
 ·rw [decide_eq_true h0]; simp [h0]
 ·rw [decide_eq_false h0,ztr_ r2 r3]; simp [h0]
theorem zou_ (n:Net) (f s:List Int):(z3r_ n f s).length≤1:=by
 unfold z3r_
 split
 ·split
  ·split <;> simp
  ·simp
 ·simp
def colB (v:List Int) (n p:Int):Bool:=v.all (fun x=>decide (0≤x∧x≤p-1))&&decide ((v.length:Int)=n)
theorem zk8_ {k:Nat} (hk:KK≤k) {v:List Int} (hv:v.length≤1048576) (n:Int) {p:Int} (hp:-1000000≤p∧p≤1000000):z8y_ k v n p=some (colB v n p):=by
 unfold z8y_ z74_ colB
 simp only [Option.bind_some,zjo_ hk hv hp]
 by_cases c:(v.length:Int)=n
 ·rw [decide_eq_true c,if_pos rfl,Bool.and_true]
 ·rw [decide_eq_false c,if_neg (by simp),Bool.and_false]
theorem zov_ {k:Nat} (hk:KK≤k) {s:She} (h:sheB k s=true):CxP s.1∧(2≤s.2.1∧s.2.1≤251)∧StP s.1 s.2.2.1:=by
 unfold sheB at h
 simp only [Bool.and_eq_true] at h
 exact ⟨z6h_.1 h.1,(zk3_ hk s.2.1).2.2 h.2.1,zk0_ h.2.2.1⟩
abbrev Pha:=Int×Int×List Edg
def z5m_ (x:Pha) (i:Nat):Bool:=match x.2.2[i]? with
 | some a=>!decide (a.1<0)&&(!decide (a.2.1≤a.1)&&(!decide (x.1≤a.2.1)&&(decide (0≤a.2.2∧a.2.2≤z0_ (x.2.1-1))&&za7_ x.2.2 i a)))
 | none=>false
def z4s_ (x:Pha):Bool:=decide (1≤x.1∧x.1≤12)&&(decide (2≤x.2.1∧x.2.1≤360)&&((List.range x.2.2.length).all (z5m_ x)&&decide (x.2.2.length≤24)))
theorem zux_ {k:Nat} (hk:KK≤k) {x:Pha} (hn:x.2.2.length≤1048576):zfc_ k x=some (z4s_ x):=by
 have hK:=zj_
 have e2:decide ((x.2.2.length:Int)≤24)=decide (x.2.2.length≤24):=decide_eq_decide.2 (by omega)
 unfold zfc_ z4s_
 simp only [z47_,Option.bind_some]
 by_cases c0:1≤x.1∧x.1≤12
 case neg=>simp [c0]
 by_cases c00:2≤x.2.1∧x.2.1≤360
 case neg=>simp [c0,c00]
 have hl:z5g_ k k x 0 (fun x_10=>some (decide ((List.length x_10.2.2:Int)≤24)))=if (List.range x.2.2.length).all (z5m_ x)=true then some (decide ((x.2.2.length:Int)≤24)) else some false:=by
  refine z2l_ (L:=fun m i=>z5g_ k m x i (fun x_10=>some (decide ((List.length x_10.2.2:Int)≤24)))) (b:=x.2.2.length) (p:=z5m_ x) (r:=some false) ?_ ?_ (n:=k) (by omega)
  ·intro m i hi
   have hlt:(i:Int)<(x.2.2.length:Int):=by omega
   have hw:=zi_ (i:=i) (by omega)
   have hg:x.2.2[i]?=some x.2.2[i]:=List.getElem?_eq_getElem hi
   have wn:z0_ (x.1-1)=x.1-1:=w_id (by omega) (by omega)
   simp only [z5g_,hlt,decide_true,if_true,Int.natCast_nonneg,Int.toNat_natCast,hg,Option.bind_some,hw,z47_,z5m_,za7_,wn]
   generalize x.2.2[i]=a
   by_cases c1:0≤a.1∧a.1≤x.1-1
   case neg =>
    rw [decide_eq_false c1,if_pos (by simp),if_neg]
    intro h
    simp only [Bool.and_eq_true,Bool.not_eq_true',decide_eq_false_iff_not] at h
    omega
   have wa:z0_ (a.1+1)=a.1+1:=w_id (by omega) (by omega)
   rw [wa,decide_eq_true c1]
   simp only [Bool.not_true,Bool.false_eq_true,if_false]
   by_cases c2:a.1+1≤a.2.1∧a.2.1≤x.1-1
   case neg =>
    rw [decide_eq_false c2,if_pos (by simp),if_neg]
    intro h
    simp only [Bool.and_eq_true,Bool.not_eq_true',decide_eq_false_iff_not] at h
    omega
   rw [decide_eq_true c2,decide_eq_false (show ¬ a.1<0 by omega),decide_eq_false (show ¬ a.2.1≤a.1 by omega),decide_eq_false (show ¬ x.1≤a.2.1 by omega)]
   simp only [Bool.not_true,Bool.not_false,Bool.false_eq_true,if_false,Bool.true_and]
   by_cases c4:0≤a.2.2∧a.2.2≤z0_ (x.2.1-1)
   case neg=>simp [c4]
   rw [decide_eq_true c4]
   simp only [Bool.not_true,Bool.not_false,Bool.false_eq_true,if_false,Bool.true_and]
   by_cases h0:0<i
   ·have h0':(0:Int)<(i:Int):=by omega
    have hw1:z0_ ((i:Int)-1)=((i-1:Nat):Int):=by rw [w_id (by omega) (by omega)]; omega
    have hg1:x.2.2[i-1]?=some x.2.2[i-1]:=List.getElem?_eq_getElem (by omega)
    simp only [h0',h0,decide_true,if_true,hw1,Int.natCast_nonneg,Int.toNat_natCast,hg1,Option.bind_some]
    generalize x.2.2[i-1]=t
    unfold z7p_
    by_cases d1:a.1<t.1
    ·have:¬ (t.1<a.1∨t.1=a.1∧t.2.1<a.2.1):=by omega
     rw [decide_eq_true d1,if_pos rfl,decide_eq_false this,if_neg (by simp)]
    ·rw [decide_eq_false d1,if_neg (by simp)]
     by_cases d2:t.1=a.1
     ·rw [decide_eq_true d2,if_pos rfl]
      by_cases d3:a.2.1≤t.2.1
      ·have:¬ (t.1<a.1∨t.1=a.1∧t.2.1<a.2.1):=by omega
       rw [decide_eq_true d3,if_pos rfl,decide_eq_false this,if_neg (by simp)]
      ·have:(t.1<a.1∨t.1=a.1∧t.2.1<a.2.1):=by omega
       rw [decide_eq_false d3,if_neg (by simp),decide_eq_true this,if_pos rfl]
     ·have:(t.1<a.1∨t.1=a.1∧t.2.1<a.2.1):=by omega
      rw [decide_eq_false d2,if_neg (by simp),decide_eq_true this,if_pos rfl]
   ·have h0':¬ (0:Int)<(i:Int):=by omega
    simp [h0,h0']
  ·intro m
   simp only [z5g_,Int.lt_irrefl,decide_false,Bool.false_eq_true,if_false]
 rw [hl,e2,decide_eq_true c0,decide_eq_true c00]
 cases (List.range x.2.2.length).all (z5m_ x) <;> simp
theorem zuy_ {k:Nat} (hk:KK≤k) {x:Pha} (hn:x.2.2.length≤1048576):zea_ k x=some (z4s_ x):=by
 have hK:=zj_
 have e2:decide ((x.2.2.length:Int)≤24)=decide (x.2.2.length≤24):=decide_eq_decide.2 (by omega)
 have hE:((z2a_ x.1 1 12).bind fun r_9=>(if r_9=true then (z2a_ x.2.1 2 360).bind fun r_10=>(if r_10=true then some (decide ((List.length x.2.2:Int)≤24)) else some false) else some false))=some (decide (1≤x.1∧x.1≤12)&&(decide (2≤x.2.1∧x.2.1≤360)&&decide (x.2.2.length≤24))):=by
  simp only [z46_,Option.bind_some,e2]
  by_cases c1:1≤x.1∧x.1≤12
  case neg=>simp [c1]
  by_cases c2:2≤x.2.1∧x.2.1≤360
  case neg=>simp [c1,c2]
  simp [c1,c2]
 unfold zea_
 have hl:∀ E:Pha→Option Bool,z68_ k k x.2.2 (x.2.2.length:Int) 0 x E=if (List.range x.2.2.length).all (z5m_ x)=true then E x else some false:=by
  intro E
  refine z2l_ (L:=fun m i=>z68_ k m x.2.2 (x.2.2.length:Int) i x E) (b:=x.2.2.length) (p:=z5m_ x) (r:=some false) ?_ ?_ (n:=k) (by omega)
  ·intro m i hi
   have hlt:(i:Int)<(x.2.2.length:Int):=by omega
   have hw:=zi_ (i:=i) (by omega)
   have hg:x.2.2[i]?=some x.2.2[i]:=List.getElem?_eq_getElem hi
   simp only [z68_,z3j_,hlt,decide_true,if_true,Int.natCast_nonneg,Int.toNat_natCast,hg,Option.bind_some,hw,z46_,z5m_,za7_]
   generalize x.2.2[i]=a
   by_cases c1:a.1<0
   case pos=>simp [c1]
   by_cases c2:a.2.1≤a.1
   case pos=>simp [c1,c2]
   by_cases c3:x.1≤a.2.1
   case pos=>simp [c1,c2,c3]
   by_cases c4:0≤a.2.2∧a.2.2≤z0_ (x.2.1-1)
   case neg=>simp [c1,c2,c3,c4]
   rw [decide_eq_false c1,decide_eq_false c2,decide_eq_false c3,decide_eq_true c4]
   simp only [Bool.not_true,Bool.not_false,Bool.false_eq_true,if_false,Bool.true_and]
   by_cases h0:0<i
   ·have h0':(0:Int)<(i:Int):=by omega
    have hw1:z0_ ((i:Int)-1)=((i-1:Nat):Int):=by rw [w_id (by omega) (by omega)]; omega
    have hg1:x.2.2[i-1]?=some x.2.2[i-1]:=List.getElem?_eq_getElem (by omega)
    simp only [h0',h0,decide_true,if_true,hw1,Int.natCast_nonneg,Int.toNat_natCast,hg1,Option.bind_some,zjk_,zjl_ hk,zns_]
    generalize x.2.2[i-1]=t
    cases z7p_ t a <;> simp
   ·have h0':¬ (0:Int)<(i:Int):=by omega
    simp [h0,h0']
  ·intro m
   simp only [z68_,Int.lt_irrefl,decide_false,Bool.false_eq_true,if_false]
 rw [hl,hE]
 unfold z4s_
 cases (List.range x.2.2.length).all (z5m_ x) <;> simp
abbrev Wrk:=She×Int×List Int×List Int×Net×List Int×List Int×Pha×List Int
structure smallW (w:Wrk):Prop where
 sh:smallSh w.1
 cl:w.2.2.1.length≤1048576
 rd:w.2.2.2.1.length≤1048576
 net:w.2.2.2.2.1.2.2.2.length≤1048576
 pha:w.2.2.2.2.2.2.2.1.2.2.length≤1048576
 ang:w.2.2.2.2.2.2.2.2.length≤1048576
noncomputable def z4a_ (k:Nat) (w:Wrk):Bool:=sheB k w.1&&(decide (0≤w.2.1∧w.2.1≤3)&&(colB w.2.2.1 (zv_ w.1.2.2.1 (ofC w.1.1 w.2.1)) w.1.2.1&&(colB w.2.2.2.1 (zv_ w.1.2.2.1 (ofC w.1.1 0)) w.1.2.1&&(netB w.2.2.2.2.1&&(z4s_ w.2.2.2.2.2.2.2.1&&colB w.2.2.2.2.2.2.2.2 w.2.2.2.2.2.2.2.1.1 w.2.2.2.2.2.2.2.1.2.1)))))
theorem zow_ {x:Pha} (h:z4s_ x=true):(1≤x.1∧x.1≤12)∧(2≤x.2.1∧x.2.1≤360):=by
 unfold z4s_ at h
 simp only [Bool.and_eq_true,decide_eq_true_eq] at h
 exact ⟨h.1,h.2.1⟩
theorem zuz_ {k:Nat} (hk:KK≤k) {w:Wrk} (hs:smallW w):zfd_ k w=some (z4a_ k w):=by
 unfold zfd_ z4a_ zif_ zig_
 rw [zum_ hk hs.sh]
 cases h1:sheB k w.1 with
 | false=>simp
 | true =>
  obtain ⟨hC,hp,hS⟩:=zov_ hk h1
  have hsc:=zgb_ hC
  simp only [Option.bind_some,Bool.not_true,Bool.false_eq_true,if_false,z47_,Bool.true_and]
  by_cases c2:0≤w.2.1∧w.2.1≤3
  case neg=>simp [c2]
  have hp':-1000000≤w.1.2.1∧w.1.2.1≤1000000:=by omega
  have hc1:z45_ k w.2.2.1 (zv_ w.1.2.2.1 (ofC w.1.1 w.2.1)) w.1.2.1=some (colB w.2.2.1 (zv_ w.1.2.2.1 (ofC w.1.1 w.2.1)) w.1.2.1):=zbq_ hk hs.cl _ hp'
  have hc2:z45_ k w.2.2.2.1 (zv_ w.1.2.2.1 (ofC w.1.1 0)) w.1.2.1=some (colB w.2.2.2.1 (zv_ w.1.2.2.1 (ofC w.1.1 0)) w.1.2.1):=zbq_ hk hs.rd _ hp'
  rw [decide_eq_true c2,zjy_ hk hsc hS (by omega),zjy_ hk hsc hS (by omega)]
  simp only [Option.bind_some,Bool.not_true,Bool.false_eq_true,if_false,hc1,hc2,ztj_ hk hs.net,zux_ hk hs.pha,Bool.true_and]
  cases colB w.2.2.1 (zv_ w.1.2.2.1 (ofC w.1.1 w.2.1)) w.1.2.1 with
  | false=>simp
  | true =>
  cases colB w.2.2.2.1 (zv_ w.1.2.2.1 (ofC w.1.1 0)) w.1.2.1 with
  | false=>simp
  | true =>
  cases netB w.2.2.2.2.1 with
  | false=>simp
  | true =>
  cases h5:z4s_ w.2.2.2.2.2.2.2.1 with
  | false=>simp
  | true =>
   obtain ⟨g1,g2⟩:=zow_ h5
   have hc3:z45_ k w.2.2.2.2.2.2.2.2 w.2.2.2.2.2.2.2.1.1 w.2.2.2.2.2.2.2.1.2.1=some (colB w.2.2.2.2.2.2.2.2 w.2.2.2.2.2.2.2.1.1 w.2.2.2.2.2.2.2.1.2.1):=zbq_ hk hs.ang _ (by omega)
   simp only [Bool.not_true,Bool.false_eq_true,if_false,if_true,hc3,Option.bind_some,Bool.true_and]
theorem zv0_ {k:Nat} (hk:KK≤k) {w:Wrk} (hs:smallW w):zeb_ k w=some (z4a_ k w):=by
 unfold zeb_ z4a_ zi5_ zi6_
 rw [zun_ hk hs.sh]
 cases h1:sheB k w.1 with
 | false=>simp
 | true =>
  obtain ⟨hC,hp,hS⟩:=zov_ hk h1
  have hsc:=zgb_ hC
  simp only [Option.bind_some,Bool.not_true,Bool.false_eq_true,if_false,z46_,Bool.true_and]
  by_cases c2:0≤w.2.1∧w.2.1≤3
  case neg=>simp [c2]
  have hp':-1000000≤w.1.2.1∧w.1.2.1≤1000000:=by omega
  rw [decide_eq_true c2,zjz_ hk hsc hS (by omega),zjz_ hk hsc hS (by omega)]
  simp only [Option.bind_some,Bool.not_true,Bool.false_eq_true,if_false,zk8_ hk hs.cl _ hp',zk8_ hk hs.rd _ hp',ztk_ hk hs.net,zuy_ hk hs.pha,Bool.true_and]
  cases netB w.2.2.2.2.1 with
  | false=>simp
  | true =>
  cases h5:z4s_ w.2.2.2.2.2.2.2.1 with
  | false=>simp
  | true =>
  obtain ⟨g1,g2⟩:=zow_ h5
  simp only [Bool.not_true,Bool.false_eq_true,if_false,zk8_ hk hs.ang w.2.2.2.2.2.2.2.1.1 (p:=w.2.2.2.2.2.2.2.1.2.1) (by omega),Option.bind_some]
  cases colB w.2.2.1 (zv_ w.1.2.2.1 (ofC w.1.1 w.2.1)) w.1.2.1 with
  | false=>simp
  | true =>
  cases colB w.2.2.2.1 (zv_ w.1.2.2.1 (ofC w.1.1 0)) w.1.2.1 with
  | false=>simp
  | true=>simp
instance dec_Int64S:DecidableEq (List Int):=inferInstance
def zf_ (a:List Int):Nat:=a.length
theorem z6j_ {a:List Int} {e0:TypeId} {left:Int} (h0:0≤left) (h1:left≤1048576) (h:InR (.sl e0 (.int .i64)) a):z41_ a left=some (if (zf_ a:Int)≤left then left-(zf_ a:Int) else -1):=by
 have hl:a.length≤140737488351232:=h.1
 have hs:zf_ a=a.length:=rfl
 unfold z41_
 rw [hs,w_id (by omega) (by omega)]
 by_cases c:(a.length:Int)≤left
 ·rw [decide_eq_false (by omega),if_neg (by simp),if_pos c]
 ·rw [decide_eq_true (by omega),if_pos rfl,if_neg c]
instance dec_Int64SS:DecidableEq (List (List Int)):=inferInstance
def z1x_ (a:List (List Int)):Nat:=a.length+sumL zf_ a
theorem zv1_ {k:Nat} (hk:KK≤k) {a:List (List Int)} {e0 e1:TypeId} {left:Int} (h0:0≤left) (h1:left≤1048576) (h:InR (.sl e0 (.sl e1 (.int .i64))) a):zdj_ k a left=some (if (z1x_ a:Int)≤left then left-(z1x_ a:Int) else -1):=by
 have hl:a.length≤140737488351232:=h.1
 have hs:z1x_ a=a.length+sumL zf_ a:=rfl
 have hK:=zj_
 unfold zdj_
 rw [hs,w_id (by omega) (by omega)]
 by_cases c:(a.length:Int)≤left
 ·rw [decide_eq_false (by omega),if_neg (by simp)]
  refine Eq.trans (zo2_ (L:=fun n i r=>z8n_ k n a r i fun r=>some r) (s:=zf_) a ?_ ?_ (n:=k) (by omega) (r:=left-(a.length:Int)) (by omega) (by omega)) ?_
  ·intro n i x r hi hlt hm r0 r1
   have hw:=zi_ (i:=i) (by omega)
   have hx:=z6j_ (a:=x) r0 r1 (h.2 x hm)
   simp only [z8n_,hlt,decide_true,if_true,Int.natCast_nonneg,Int.toNat_natCast,hi,Option.bind_some,hw,hx]
   by_cases c2:(zf_ x:Int)≤r
   ·rw [if_pos c2,decide_eq_false (by omega),if_neg (by simp),if_pos c2]
   ·rw [if_neg c2,decide_eq_true (by omega),if_pos rfl,if_neg c2]
  ·intro n r
   simp [z8n_]
  ·by_cases c2:(sumL zf_ a:Int)≤left-(a.length:Int)
   ·rw [if_pos c2,if_pos (by omega)]; congr 1; omega
   ·rw [if_neg c2,if_neg (by omega)]
 ·rw [decide_eq_true (by omega),if_pos rfl,if_neg (by omega)]
instance dec_Complex:DecidableEq (List (List Int)):=inferInstance
def z2n_ (a:List (List Int)):Nat:=(z1x_ a)
theorem zv2_ {k:Nat} (hk:KK≤k) {a:List (List Int)} {e0 e1:TypeId} {left:Int} (h0:0≤left) (h1:left≤1048576) (h:InR (.st (.sl e0 (.sl e1 (.int .i64)))) a):zdk_ k a left=some (if (z2n_ a:Int)≤left then left-(z2n_ a:Int) else -1):=by
 have hs:z2n_ a=(z1x_ a):=rfl
 unfold zdk_
 rw [hs]
 have q0:=zv1_ hk (a:=a) (left:=left) (by omega) (by omega) h
 rw [q0]
 by_cases c0:((z1x_ a):Int)≤left
 case neg=>rw [if_neg c0]; simp only [Option.bind_some]; rw [decide_eq_true (by omega),if_pos rfl]
 rw [if_pos c0]; simp only [Option.bind_some]
 rw [decide_eq_false (by omega),if_neg (by simp)]
instance dec_Matrix_2:DecidableEq (Int×List Int):=inferInstance
instance dec_Matrix_1:DecidableEq (Int×Int×List Int):=inferInstance
instance dec_Matrix:DecidableEq (Int×Int×Int×List Int):=inferInstance
def z1i_ (a:Int×Int×Int×List Int):Nat:=(zf_ (a.2.2.2))
theorem zv3_ {a:Int×Int×Int×List Int} {e0:TypeId} {left:Int} (h0:0≤left) (h1:left≤1048576) (h:InR (.st (.pr (.int .i64) (.pr (.int .i64) (.pr (.int .i64) (.sl e0 (.int .i64)))))) a):zdl_ a left=some (if (z1i_ a:Int)≤left then left-(z1i_ a:Int) else -1):=by
 have hs:z1i_ a=(zf_ (a.2.2.2)):=rfl
 unfold zdl_
 rw [hs]
 have q0:=z6j_ (a:=a.2.2.2) (left:=left) (by omega) (by omega) h.2.2.2
 rw [q0]
 by_cases c0:((zf_ (a.2.2.2)):Int)≤left
 case neg=>rw [if_neg c0]; simp only [Option.bind_some]; rw [decide_eq_true (by omega),if_pos rfl]
 rw [if_pos c0]; simp only [Option.bind_some]
 rw [decide_eq_false (by omega),if_neg (by simp)]
instance dec_MatrixS:DecidableEq (List (Int×Int×Int×List Int)):=inferInstance
def z1y_ (a:List (Int×Int×Int×List Int)):Nat:=a.length+sumL z1i_ a
theorem zv4_ {k:Nat} (hk:KK≤k) {a:List (Int×Int×Int×List Int)} {e0 e1:TypeId} {left:Int} (h0:0≤left) (h1:left≤1048576) (h:InR (.sl e0 (.st (.pr (.int .i64) (.pr (.int .i64) (.pr (.int .i64) (.sl e1 (.int .i64))))))) a):zdm_ k a left=some (if (z1y_ a:Int)≤left then left-(z1y_ a:Int) else -1):=by
 have hl:a.length≤140737488351232:=h.1
 have hs:z1y_ a=a.length+sumL z1i_ a:=rfl
 have hK:=zj_
 unfold zdm_
 rw [hs,w_id (by omega) (by omega)]
 by_cases c:(a.length:Int)≤left
 ·rw [decide_eq_false (by omega),if_neg (by simp)]
  refine Eq.trans (zo2_ (L:=fun n i r=>z8o_ k n a r i fun r=>some r) (s:=z1i_) a ?_ ?_ (n:=k) (by omega) (r:=left-(a.length:Int)) (by omega) (by omega)) ?_
  ·intro n i x r hi hlt hm r0 r1
   have hw:=zi_ (i:=i) (by omega)
   have hx:=zv3_ (a:=x) r0 r1 (h.2 x hm)
   simp only [z8o_,hlt,decide_true,if_true,Int.natCast_nonneg,Int.toNat_natCast,hi,Option.bind_some,hw,hx]
   by_cases c2:(z1i_ x:Int)≤r
   ·rw [if_pos c2,decide_eq_false (by omega),if_neg (by simp),if_pos c2]
   ·rw [if_neg c2,decide_eq_true (by omega),if_pos rfl,if_neg c2]
  ·intro n r
   simp [z8o_]
  ·by_cases c2:(sumL z1i_ a:Int)≤left-(a.length:Int)
   ·rw [if_pos c2,if_pos (by omega)]; congr 1; omega
   ·rw [if_neg c2,if_neg (by omega)]
 ·rw [decide_eq_true (by omega),if_pos rfl,if_neg (by omega)]
instance dec_Sheaf_2:DecidableEq (List Int×(List (Int×Int×Int×List Int))):=inferInstance
instance dec_Sheaf_1:DecidableEq (Int×List Int×(List (Int×Int×Int×List Int))):=inferInstance
instance dec_Sheaf:DecidableEq (List (List Int)×Int×List Int×(List (Int×Int×Int×List Int))):=inferInstance
def zt_ (a:List (List Int)×Int×List Int×(List (Int×Int×Int×List Int))):Nat:=(z2n_ (a.1))+(zf_ (a.2.2.1))+(z1y_ (a.2.2.2))
theorem zv5_ {k:Nat} (hk:KK≤k) {a:List (List Int)×Int×List Int×(List (Int×Int×Int×List Int))} {e0 e1 e2 e3 e4:TypeId} {left:Int} (h0:0≤left) (h1:left≤1048576) (h:InR (.st (.pr (.st (.sl e0 (.sl e1 (.int .i64)))) (.pr (.int .i64) (.pr (.sl e2 (.int .i64)) (.sl e3 (.st (.pr (.int .i64) (.pr (.int .i64) (.pr (.int .i64) (.sl e4 (.int .i64))))))))))) a):zdn_ k a left=some (if (zt_ a:Int)≤left then left-(zt_ a:Int) else -1):=by
 have hs:zt_ a=(z2n_ (a.1))+(zf_ (a.2.2.1))+(z1y_ (a.2.2.2)):=rfl
 unfold zdn_
 rw [hs]
 have q0:=zv2_ hk (a:=a.1) (left:=left) (by omega) (by omega) h.1
 rw [q0]
 by_cases c0:((z2n_ (a.1)):Int)≤left
 case neg=>rw [if_neg c0]; simp only [Option.bind_some]; rw [decide_eq_true (by omega),if_pos rfl,if_neg (by omega)]
 rw [if_pos c0]; simp only [Option.bind_some]
 rw [decide_eq_false (by omega),if_neg (by simp)]
 have q1:=z6j_ (a:=a.2.2.1) (left:=left-((z2n_ (a.1)):Int)) (by omega) (by omega) h.2.2.1
 rw [q1]
 by_cases c1:((zf_ (a.2.2.1)):Int)≤left-((z2n_ (a.1)):Int)
 case neg=>rw [if_neg c1]; simp only [Option.bind_some]; rw [decide_eq_true (by omega),if_pos rfl,if_neg (by omega)]
 rw [if_pos c1]; simp only [Option.bind_some]
 rw [decide_eq_false (by omega),if_neg (by simp)]
 have q2:=zv4_ hk (a:=a.2.2.2) (left:=left-((z2n_ (a.1)):Int)-((zf_ (a.2.2.1)):Int)) (by omega) (by omega) h.2.2.2
 rw [q2]
 by_cases c2:((z1y_ (a.2.2.2)):Int)≤left-((z2n_ (a.1)):Int)-((zf_ (a.2.2.1)):Int)
 case neg=>rw [if_neg c2]; simp only [Option.bind_some]; rw [decide_eq_true (by omega),if_pos rfl,if_neg (by omega)]
 rw [if_pos c2]; simp only [Option.bind_some]
 rw [decide_eq_false (by omega),if_neg (by simp)]
 rw [if_pos (by omega)]; congr 1; omega
theorem zv6_ {s:She} (h:zt_ s≤1048576):smallSh s:=by
 have e:zt_ s=s.1.length+sumL List.length s.1+s.2.2.1.length+(s.2.2.2.length+sumL z1i_ s.2.2.2):=rfl
 refine ⟨⟨by omega,fun x hx=>by have:=z5k_ List.length hx; omega⟩,by omega,by omega,fun m hm=>?_⟩
 have h1:=z5k_ z1i_ hm
 have h2:z1i_ m=m.2.2.2.length:=rfl
 omega
instance dec_ArcS:DecidableEq (List (Int×Int×Int)):=inferInstance
def z31_ (a:List (Int×Int×Int)):Nat:=a.length
theorem zv7_ {a:List (Int×Int×Int)} {e0:TypeId} {left:Int} (h0:0≤left) (h1:left≤1048576) (h:InR (.sl e0 (.st (.pr (.int .i64) (.pr (.int .i64) (.int .i64))))) a):zdo_ a left=some (if (z31_ a:Int)≤left then left-(z31_ a:Int) else -1):=by
 have hl:a.length≤140737488351232:=h.1
 have hs:z31_ a=a.length:=rfl
 unfold zdo_
 rw [hs,w_id (by omega) (by omega)]
 by_cases c:(a.length:Int)≤left
 ·rw [decide_eq_false (by omega),if_neg (by simp),if_pos c]
 ·rw [decide_eq_true (by omega),if_pos rfl,if_neg c]
instance dec_Network_2:DecidableEq (Int×(List (Int×Int×Int))):=inferInstance
instance dec_Network_1:DecidableEq (Int×Int×(List (Int×Int×Int))):=inferInstance
instance dec_Network:DecidableEq (Int×Int×Int×(List (Int×Int×Int))):=inferInstance
def z1t_ (a:Int×Int×Int×(List (Int×Int×Int))):Nat:=(z31_ (a.2.2.2))
theorem zv8_ {a:Int×Int×Int×(List (Int×Int×Int))} {e0:TypeId} {left:Int} (h0:0≤left) (h1:left≤1048576) (h:InR (.st (.pr (.int .i64) (.pr (.int .i64) (.pr (.int .i64) (.sl e0 (.st (.pr (.int .i64) (.pr (.int .i64) (.int .i64))))))))) a):zdp_ a left=some (if (z1t_ a:Int)≤left then left-(z1t_ a:Int) else -1):=by
 have hs:z1t_ a=(z31_ (a.2.2.2)):=rfl
 unfold zdp_
 rw [hs]
 have q0:=zv7_ (a:=a.2.2.2) (left:=left) (by omega) (by omega) h.2.2.2
 rw [q0]
 by_cases c0:((z31_ (a.2.2.2)):Int)≤left
 case neg=>rw [if_neg c0]; simp only [Option.bind_some]; rw [decide_eq_true (by omega),if_pos rfl]
 rw [if_pos c0]; simp only [Option.bind_some]
 rw [decide_eq_false (by omega),if_neg (by simp)]
instance dec_TurnS:DecidableEq (List (Int×Int×Int)):=inferInstance
def z32_ (a:List (Int×Int×Int)):Nat:=a.length
theorem zv9_ {a:List (Int×Int×Int)} {e0:TypeId} {left:Int} (h0:0≤left) (h1:left≤1048576) (h:InR (.sl e0 (.st (.pr (.int .i64) (.pr (.int .i64) (.int .i64))))) a):zdq_ a left=some (if (z32_ a:Int)≤left then left-(z32_ a:Int) else -1):=by
 have hl:a.length≤140737488351232:=h.1
 have hs:z32_ a=a.length:=rfl
 unfold zdq_
 rw [hs,w_id (by omega) (by omega)]
 by_cases c:(a.length:Int)≤left
 ·rw [decide_eq_false (by omega),if_neg (by simp),if_pos c]
 ·rw [decide_eq_true (by omega),if_pos rfl,if_neg c]
instance dec_Phases_1:DecidableEq (Int×(List (Int×Int×Int))):=inferInstance
instance dec_Phases:DecidableEq (Int×Int×(List (Int×Int×Int))):=inferInstance
def z33_ (a:Int×Int×(List (Int×Int×Int))):Nat:=(z32_ (a.2.2))
theorem zva_ {a:Int×Int×(List (Int×Int×Int))} {e0:TypeId} {left:Int} (h0:0≤left) (h1:left≤1048576) (h:InR (.st (.pr (.int .i64) (.pr (.int .i64) (.sl e0 (.st (.pr (.int .i64) (.pr (.int .i64) (.int .i64)))))))) a):zdr_ a left=some (if (z33_ a:Int)≤left then left-(z33_ a:Int) else -1):=by
 have hs:z33_ a=(z32_ (a.2.2)):=rfl
 unfold zdr_
 rw [hs]
 have q0:=zv9_ (a:=a.2.2) (left:=left) (by omega) (by omega) h.2.2
 rw [q0]
 by_cases c0:((z32_ (a.2.2)):Int)≤left
 case neg=>rw [if_neg c0]; simp only [Option.bind_some]; rw [decide_eq_true (by omega),if_pos rfl]
 rw [if_pos c0]; simp only [Option.bind_some]
 rw [decide_eq_false (by omega),if_neg (by simp)]
instance dec_Work_7:DecidableEq ((Int×Int×(List (Int×Int×Int)))×List Int):=inferInstance
instance dec_Work_6:DecidableEq (List Int×(Int×Int×(List (Int×Int×Int)))×List Int):=inferInstance
instance dec_Work_5:DecidableEq (List Int×List Int×(Int×Int×(List (Int×Int×Int)))×List Int):=inferInstance
instance dec_Work_4:DecidableEq ((Int×Int×Int×(List (Int×Int×Int)))×List Int×List Int×(Int×Int×(List (Int×Int×Int)))×List Int):=inferInstance
instance dec_Work_3:DecidableEq (List Int×(Int×Int×Int×(List (Int×Int×Int)))×List Int×List Int×(Int×Int×(List (Int×Int×Int)))×List Int):=inferInstance
instance dec_Work_2:DecidableEq (List Int×List Int×(Int×Int×Int×(List (Int×Int×Int)))×List Int×List Int×(Int×Int×(List (Int×Int×Int)))×List Int):=inferInstance
instance dec_Work_1:DecidableEq (Int×List Int×List Int×(Int×Int×Int×(List (Int×Int×Int)))×List Int×List Int×(Int×Int×(List (Int×Int×Int)))×List Int):=inferInstance
instance dec_Work:DecidableEq ((List (List Int)×Int×List Int×(List (Int×Int×Int×List Int)))×Int×List Int×List Int×(Int×Int×Int×(List (Int×Int×Int)))×List Int×List Int×(Int×Int×(List (Int×Int×Int)))×List Int):=inferInstance
def z14_ (a:(List (List Int)×Int×List Int×(List (Int×Int×Int×List Int)))×Int×List Int×List Int×(Int×Int×Int×(List (Int×Int×Int)))×List Int×List Int×(Int×Int×(List (Int×Int×Int)))×List Int):Nat:=(zt_ (a.1))+(zf_ (a.2.2.1))+(zf_ (a.2.2.2.1))+(z1t_ (a.2.2.2.2.1))+(zf_ (a.2.2.2.2.2.1))+(zf_ (a.2.2.2.2.2.2.1))+(z33_ (a.2.2.2.2.2.2.2.1))+(zf_ (a.2.2.2.2.2.2.2.2))
theorem zvb_ {k:Nat} (hk:KK≤k) {a:(List (List Int)×Int×List Int×(List (Int×Int×Int×List Int)))×Int×List Int×List Int×(Int×Int×Int×(List (Int×Int×Int)))×List Int×List Int×(Int×Int×(List (Int×Int×Int)))×List Int} {e0 e1 e2 e3 e4 e5 e6 e7 e8 e9 e10 e11:TypeId} {left:Int} (h0:0≤left) (h1:left≤1048576) (h:InR (.st (.pr (.st (.pr (.st (.sl e0 (.sl e1 (.int .i64)))) (.pr (.int .i64) (.pr (.sl e2 (.int .i64)) (.sl e3 (.st (.pr (.int .i64) (.pr (.int .i64) (.pr (.int .i64) (.sl e4 (.int .i64))))))))))) (.pr (.int .i64) (.pr (.sl e5 (.int .i64)) (.pr (.sl e6 (.int .i64)) (.pr (.st (.pr (.int .i64) (.pr (.int .i64) (.pr (.int .i64) (.sl e7 (.st (.pr (.int .i64) (.pr (.int .i64) (.int .i64))))))))) (.pr (.sl e8 (.int .i64)) (.pr (.sl e9 (.int .i64)) (.pr (.st (.pr (.int .i64) (.pr (.int .i64) (.sl e10 (.st (.pr (.int .i64) (.pr (.int .i64) (.int .i64)))))))) (.sl e11 (.int .i64))))))))))) a):zds_ k a left=some (if (z14_ a:Int)≤left then left-(z14_ a:Int) else -1):=by
 have hs:z14_ a=(zt_ (a.1))+(zf_ (a.2.2.1))+(zf_ (a.2.2.2.1))+(z1t_ (a.2.2.2.2.1))+(zf_ (a.2.2.2.2.2.1))+(zf_ (a.2.2.2.2.2.2.1))+(z33_ (a.2.2.2.2.2.2.2.1))+(zf_ (a.2.2.2.2.2.2.2.2)):=rfl
 unfold zds_
 rw [hs]
 have q0:=zv5_ hk (a:=a.1) (left:=left) (by omega) (by omega) h.1
 rw [q0]
 by_cases c0:((zt_ (a.1)):Int)≤left
 case neg=>rw [if_neg c0]; simp only [Option.bind_some]; rw [decide_eq_true (by omega),if_pos rfl,if_neg (by omega)]
 rw [if_pos c0]; simp only [Option.bind_some]
 rw [decide_eq_false (by omega),if_neg (by simp)]
 have q1:=z6j_ (a:=a.2.2.1) (left:=left-((zt_ (a.1)):Int)) (by omega) (by omega) h.2.2.1
 rw [q1]
 by_cases c1:((zf_ (a.2.2.1)):Int)≤left-((zt_ (a.1)):Int)
 case neg=>rw [if_neg c1]; simp only [Option.bind_some]; rw [decide_eq_true (by omega),if_pos rfl,if_neg (by omega)]
 rw [if_pos c1]; simp only [Option.bind_some]
 rw [decide_eq_false (by omega),if_neg (by simp)]
 have q2:=z6j_ (a:=a.2.2.2.1) (left:=left-((zt_ (a.1)):Int)-((zf_ (a.2.2.1)):Int)) (by omega) (by omega) h.2.2.2.1
 rw [q2]
 by_cases c2:((zf_ (a.2.2.2.1)):Int)≤left-((zt_ (a.1)):Int)-((zf_ (a.2.2.1)):Int)
 case neg=>rw [if_neg c2]; simp only [Option.bind_some]; rw [decide_eq_true (by omega),if_pos rfl,if_neg (by omega)]
 rw [if_pos c2]; simp only [Option.bind_some]
 rw [decide_eq_false (by omega),if_neg (by simp)]
 have q3:=zv8_ (a:=a.2.2.2.2.1) (left:=left-((zt_ (a.1)):Int)-((zf_ (a.2.2.1)):Int)-((zf_ (a.2.2.2.1)):Int)) (by omega) (by omega) h.2.2.2.2.1
 rw [q3]
 by_cases c3:((z1t_ (a.2.2.2.2.1)):Int)≤left-((zt_ (a.1)):Int)-((zf_ (a.2.2.1)):Int)-((zf_ (a.2.2.2.1)):Int)
 case neg=>rw [if_neg c3]; simp only [Option.bind_some]; rw [decide_eq_true (by omega),if_pos rfl,if_neg (by omega)]
 rw [if_pos c3]; simp only [Option.bind_some]
 rw [decide_eq_false (by omega),if_neg (by simp)]
 have q4:=z6j_ (a:=a.2.2.2.2.2.1) (left:=left-((zt_ (a.1)):Int)-((zf_ (a.2.2.1)):Int)-((zf_ (a.2.2.2.1)):Int)-((z1t_ (a.2.2.2.2.1)):Int)) (by omega) (by omega) h.2.2.2.2.2.1
 rw [q4]
 by_cases c4:((zf_ (a.2.2.2.2.2.1)):Int)≤left-((zt_ (a.1)):Int)-((zf_ (a.2.2.1)):Int)-((zf_ (a.2.2.2.1)):Int)-((z1t_ (a.2.2.2.2.1)):Int)
 case neg=>rw [if_neg c4]; simp only [Option.bind_some]; rw [decide_eq_true (by omega),if_pos rfl,if_neg (by omega)]
 rw [if_pos c4]; simp only [Option.bind_some]
 rw [decide_eq_false (by omega),if_neg (by simp)]
 have q5:=z6j_ (a:=a.2.2.2.2.2.2.1) (left:=left-((zt_ (a.1)):Int)-((zf_ (a.2.2.1)):Int)-((zf_ (a.2.2.2.1)):Int)-((z1t_ (a.2.2.2.2.1)):Int)-((zf_ (a.2.2.2.2.2.1)):Int)) (by omega) (by omega) h.2.2.2.2.2.2.1
 rw [q5]
 by_cases c5:((zf_ (a.2.2.2.2.2.2.1)):Int)≤left-((zt_ (a.1)):Int)-((zf_ (a.2.2.1)):Int)-((zf_ (a.2.2.2.1)):Int)-((z1t_ (a.2.2.2.2.1)):Int)-((zf_ (a.2.2.2.2.2.1)):Int)
 case neg=>rw [if_neg c5]; simp only [Option.bind_some]; rw [decide_eq_true (by omega),if_pos rfl,if_neg (by omega)]
 rw [if_pos c5]; simp only [Option.bind_some]
 rw [decide_eq_false (by omega),if_neg (by simp)]
 have q6:=zva_ (a:=a.2.2.2.2.2.2.2.1) (left:=left-((zt_ (a.1)):Int)-((zf_ (a.2.2.1)):Int)-((zf_ (a.2.2.2.1)):Int)-((z1t_ (a.2.2.2.2.1)):Int)-((zf_ (a.2.2.2.2.2.1)):Int)-((zf_ (a.2.2.2.2.2.2.1)):Int)) (by omega) (by omega) h.2.2.2.2.2.2.2.1
 rw [q6]
 by_cases c6:((z33_ (a.2.2.2.2.2.2.2.1)):Int)≤left-((zt_ (a.1)):Int)-((zf_ (a.2.2.1)):Int)-((zf_ (a.2.2.2.1)):Int)-((z1t_ (a.2.2.2.2.1)):Int)-((zf_ (a.2.2.2.2.2.1)):Int)-((zf_ (a.2.2.2.2.2.2.1)):Int)
 case neg=>rw [if_neg c6]; simp only [Option.bind_some]; rw [decide_eq_true (by omega),if_pos rfl,if_neg (by omega)]
 rw [if_pos c6]; simp only [Option.bind_some]
 rw [decide_eq_false (by omega),if_neg (by simp)]
 have q7:=z6j_ (a:=a.2.2.2.2.2.2.2.2) (left:=left-((zt_ (a.1)):Int)-((zf_ (a.2.2.1)):Int)-((zf_ (a.2.2.2.1)):Int)-((z1t_ (a.2.2.2.2.1)):Int)-((zf_ (a.2.2.2.2.2.1)):Int)-((zf_ (a.2.2.2.2.2.2.1)):Int)-((z33_ (a.2.2.2.2.2.2.2.1)):Int)) (by omega) (by omega) h.2.2.2.2.2.2.2.2
 rw [q7]
 by_cases c7:((zf_ (a.2.2.2.2.2.2.2.2)):Int)≤left-((zt_ (a.1)):Int)-((zf_ (a.2.2.1)):Int)-((zf_ (a.2.2.2.1)):Int)-((z1t_ (a.2.2.2.2.1)):Int)-((zf_ (a.2.2.2.2.2.1)):Int)-((zf_ (a.2.2.2.2.2.2.1)):Int)-((z33_ (a.2.2.2.2.2.2.2.1)):Int)
 case neg=>rw [if_neg c7]; simp only [Option.bind_some]; rw [decide_eq_true (by omega),if_pos rfl,if_neg (by omega)]
 rw [if_pos c7]; simp only [Option.bind_some]
 rw [decide_eq_false (by omega),if_neg (by simp)]
 rw [if_pos (by omega)]; congr 1; omega
theorem zvc_ {w:Wrk} (h:z14_ w≤1048576):smallW w:=by
 have e:z14_ w=zt_ w.1+w.2.2.1.length+w.2.2.2.1.length+w.2.2.2.2.1.2.2.2.length+w.2.2.2.2.2.1.length+w.2.2.2.2.2.2.1.length+w.2.2.2.2.2.2.2.1.2.2.length+w.2.2.2.2.2.2.2.2.length:=rfl
 exact ⟨zv6_ (by omega),by omega,by omega,by omega,by omega,by omega⟩
def mkI (_:Int) (m:Int):Int×Int:=(m,m+((1:Nat):Int))
theorem zk9_:∀ (x:Int) (m:Int),(mkI x m).2=m+(((fun _:Int=>1) x:Nat):Int):=fun _ _=>rfl
theorem zvd_ {k:Nat} (hk:KK≤k) {q:List (List Int)} {a:Nat} {z:List Int} (hz:q[a]?=some z) {m:Int} (h0:0≤m) (h1:m≤1000000000000000000) (hl:z.length≤1000000000000) :
  zev_ k a m q=some ((m+(z.length:Int),()),(q.set a (mkL mkI z m).1,()),()):=by
 have hK:=zj_
 have ha:=(List.getElem?_eq_some_iff.1 hz).1
 have hs:=zg5_ z
 unfold zev_
 have e:q=q.set a z:=by
  obtain ⟨h,rfl⟩:=List.getElem?_eq_some_iff.1 hz
  exact (List.set_getElem_self h).symm
 have:=z6g_ zk9_ z (m0:=m) (B:=2000000000000000000) (by omega) (S:=fun l=>q.set a l) (L:=fun n m i q=>z98_ k n a m i q (fun k_10 q_11=>some ((k_10,()),(q_11,()),())))
  (G:=some ((m+(z.length:Int),()),(q.set a (mkL mkI z m).1,()),())) ?_ ?_ (n:=k) (by omega)
 ·rw [← e] at this
  exact this
 ·intro n i m l y hll hg hy m0 m1 hlt hlt'
  have hw:=zi_ (i:=i) (by omega)
  have hm:z0_ (m+1)=m+((1:Nat):Int):=w_id (by omega) (by omega)
  simp only [z98_,List.getElem?_set_self ha,Option.bind_some,hlt,hlt',decide_true,if_true,Int.natCast_nonneg,Int.toNat_natCast,and_self,List.getElem?_eq_getElem hlt',hm,hw,List.set_set,mkI]
 ·intro n l hl2 hll
  have:¬ (z.length:Int)<(l.length:Int):=by omega
  simp only [z98_,List.getElem?_set_self ha,Option.bind_some,this,decide_false,Bool.false_eq_true,if_false,hs]
  rw [hl2]
def mkIS (z:List Int) (m:Int):List Int×Int:=((mkL mkI z m).1,m+(z.length:Int))
theorem zve_ (z:List Int) (m:Int):(mkIS z m).2=m+(z.length:Int):=rfl
theorem zvf_ {k:Nat} (hk:KK≤k) {L:List (List Int)} {m:Int} (h0:0≤m) (h1:m+(sumL List.length L:Int)≤100000000000000000) (hx:∀ x∈L,x.length≤1000000000000) (hL:L.length≤1000000000000) :
  zew_ k m L=some ((m+(sumL List.length L:Int),()),((mkL mkIS L m).1,()),()):=by
 have hK:=zj_
 unfold zew_
 refine z6g_ zve_ L (m0:=m) (B:=100000000000000000) h1 (S:=fun l=>l) (L:=fun n m i q=>z99_ k n m i q (fun k_5 q_6=>some ((k_5,()),(q_6,()),()))) ?_ ?_ (n:=k) (by omega)
 ·intro n i m' l y hll hg hy m0 m1 hlt hlt'
  have hw:=zi_ (i:=i) (by omega)
  have st:=zvd_ hk hg (m:=m') (by omega) (by omega) (hx y hy)
  simp only [z99_,hlt,hlt',decide_true,if_true,Option.bind_some,Int.natCast_nonneg,Int.toNat_natCast,and_self,hg,st,hw]
  rfl
 ·intro n l hl2 hll
  have:¬ (L.length:Int)<(l.length:Int):=by omega
  simp only [z99_,this,decide_false,Bool.false_eq_true,if_false]
  rw [hl2]
theorem zvg_ {k:Nat} (hk:KK≤k) {a:List Int} {m:Int} (h0:0≤m) (h1:m≤1000000000000000000) (hl:a.length≤1000000000000) :
  z5b_ k m a=some ((m+(a.length:Int),()),((mkL mkI a m).1,()),()):=by
 have hK:=zj_
 have hs:=zg5_ a
 unfold z5b_
 refine z6g_ zk9_ a (m0:=m) (B:=2000000000000000000) (by omega) (S:=fun l=>l) (L:=fun n m i q=>z9a_ k n m i q (fun k_5 q_6=>some ((k_5,()),(q_6,()),()))) ?_ ?_ (n:=k) (by omega)
 ·intro n i m l y hll hg hy m0 m1 hlt hlt'
  have hw:=zi_ (i:=i) (by omega)
  have hm:z0_ (m+1)=m+((1:Nat):Int):=w_id (by omega) (by omega)
  simp only [z9a_,Option.bind_some,hlt,hlt',decide_true,if_true,Int.natCast_nonneg,Int.toNat_natCast,and_self,List.getElem?_eq_getElem hlt',hm,hw,mkI]
 ·intro n l hl2 hll
  have:¬ (a.length:Int)<(l.length:Int):=by omega
  simp only [z9a_,this,decide_false,Bool.false_eq_true,if_false,hs]
  rw [hl2]
theorem zox_ {α:Type} {f g:α→Nat} {c:Nat}:∀ {l:List α},(∀ x∈l,f x≤g x+c)→sumL f l≤sumL g l+c*l.length
 | [],_=>by simp [z7q_]
 | x::l,h=>by
  have h1:=h x (by simp)
  have h2:=zox_ (f:=f) (g:=g) (c:=c) (l:=l) fun y hy=>h y (by simp [hy])
  rw [z3p_,z3p_,List.length_cons,Nat.mul_succ]
  omega
theorem zvh_ {k:Nat} (hk:KK≤k) {q:List Mat} {a:Nat} {z:Mat} (hz:q[a]?=some z) {m:Int} (h0:0≤m) (h1:m≤1000000000000000000) (hl:z.2.2.2.length≤1000000000000) :
  zex_ k a m q=some ((m+(z.2.2.2.length:Int),()),(q.set a (z.1,z.2.1,z.2.2.1,(mkL mkI z.2.2.2 m).1),()),()):=by
 have hK:=zj_
 have ha:=(List.getElem?_eq_some_iff.1 hz).1
 have hs:=zg5_ z.2.2.2
 unfold zex_
 have e:q=q.set a (z.1,z.2.1,z.2.2.1,z.2.2.2):=by
  obtain ⟨h,rfl⟩:=List.getElem?_eq_some_iff.1 hz
  exact (List.set_getElem_self h).symm
 have:=z6g_ zk9_ z.2.2.2 (m0:=m) (B:=2000000000000000000) (by omega) (S:=fun l=>q.set a (z.1,z.2.1,z.2.2.1,l)) (L:=fun n m i q=>z9b_ k n a m i q (fun k_10 q_11=>some ((k_10,()),(q_11,()),())))
  (G:=some ((m+(z.2.2.2.length:Int),()),(q.set a (z.1,z.2.1,z.2.2.1,(mkL mkI z.2.2.2 m).1),()),())) ?_ ?_ (n:=k) (by omega)
 ·rw [← e] at this
  exact this
 ·intro n i m l y hll hg hy m0 m1 hlt hlt'
  have hw:=zi_ (i:=i) (by omega)
  have hm:z0_ (m+1)=m+((1:Nat):Int):=w_id (by omega) (by omega)
  simp only [z9b_,List.getElem?_set_self ha,Option.bind_some,hlt,hlt',decide_true,if_true,Int.natCast_nonneg,Int.toNat_natCast,and_self,List.getElem?_eq_getElem hlt',hm,hw,List.set_set,mkI]
 ·intro n l hl2 hll
  have:¬ (z.2.2.2.length:Int)<(l.length:Int):=by omega
  simp only [z9b_,List.getElem?_set_self ha,Option.bind_some,this,decide_false,Bool.false_eq_true,if_false,hs]
  rw [hl2]
def ctM (x:Mat):Nat:=x.2.2.2.length+3
def mkMt (x:Mat) (m:Int):Mat×Int:=((m,m+1,m+1+1,(mkL mkI x.2.2.2 (m+1+1+1)).1),m+(ctM x:Int))
theorem zvi_ (x:Mat) (m:Int):(mkMt x m).2=m+(ctM x:Int):=rfl
theorem zvj_ {k:Nat} (hk:KK≤k) {L:List Mat} {m:Int} (h0:0≤m) (h1:m+(sumL ctM L:Int)≤10000000000000000) (hx:∀ x∈L,x.2.2.2.length≤1000000000000) (hL:L.length≤1000000000000) :
  zey_ k m L=some ((m+(sumL ctM L:Int),()),((mkL mkMt L m).1,()),()):=by
 have hK:=zj_
 unfold zey_
 refine z6g_ zvi_ L (m0:=m) (B:=10000000000000000) h1 (S:=fun l=>l) (L:=fun n m i q=>z9c_ k n m i q (fun k_11 q_12=>some ((k_11,()),(q_12,()),()))) ?_ ?_ (n:=k) (by omega)
 ·intro n i m' l y hll hg hy m0 m1 hlt hlt'
  have hw:=zi_ (i:=i) (by omega)
  have hc:ctM y=y.2.2.2.length+3:=rfl
  have w1:z0_ (m'+1)=m'+1:=w_id (by omega) (by omega)
  have w2:z0_ (m'+1+1)=m'+1+1:=w_id (by omega) (by omega)
  have w3:z0_ (m'+1+1+1)=m'+1+1+1:=w_id (by omega) (by omega)
  have st:=zvh_ hk (q:=l.set i (m',m'+1,m'+1+1,y.2.2.2)) (a:=i) (z:=(m',m'+1,m'+1+1,y.2.2.2)) (List.getElem?_set_self hlt') (m:=m'+1+1+1) (by omega) (by omega) (hx y hy)
  have e:m'+1+1+1+(y.2.2.2.length:Int)=m'+(ctM y:Int):=by omega
  simp only [z9c_,hlt,hlt',decide_true,if_true,Option.bind_some,Int.natCast_nonneg,Int.toNat_natCast,and_self,hg,List.length_set,List.getElem?_set_self hlt',w1,w2,w3,List.set_set,st,e,hw]
  rfl
 ·intro n l hl2 hll
  have:¬ (L.length:Int)<(l.length:Int):=by omega
  simp only [z9c_,this,decide_false,Bool.false_eq_true,if_false]
  rw [hl2]
def mkAr (_:Edg) (m:Int):Edg×Int:=((m,m+1,m+1+1),m+((3:Nat):Int))
theorem zoy_:∀ (x:Edg) (m:Int),(mkAr x m).2=m+(((fun _:Edg=>3) x:Nat):Int):=fun _ _=>rfl
theorem zvk_ {k:Nat} (hk:KK≤k) {L:List Edg} {m:Int} (h0:0≤m) (h1:m+(sumL (fun _:Edg=>3) L:Int)≤10000000000000000) (hL:L.length≤1000000000000) :
  zez_ k m L=some ((m+(sumL (fun _:Edg=>3) L:Int),()),((mkL mkAr L m).1,()),()):=by
 have hK:=zj_
 unfold zez_
 refine z6g_ zoy_ L (m0:=m) (B:=10000000000000000) h1 (S:=fun l=>l) (L:=fun n m i q=>z9d_ k n m i q (fun k_9 q_10=>some ((k_9,()),(q_10,()),()))) ?_ ?_ (n:=k) (by omega)
 ·intro n i m' l y hll hg hy m0 m1 hlt hlt'
  have hw:=zi_ (i:=i) (by omega)
  have w1:z0_ (m'+1)=m'+1:=w_id (by omega) (by omega)
  have w2:z0_ (m'+1+1)=m'+1+1:=w_id (by omega) (by omega)
  have w3:z0_ (m'+1+1+1)=m'+((3:Nat):Int):=by rw [w_id (by omega) (by omega)]; omega
  simp only [z9d_,hlt,hlt',decide_true,if_true,Option.bind_some,Int.natCast_nonneg,Int.toNat_natCast,and_self,hg,List.length_set,List.getElem?_set_self hlt',w1,w2,w3,List.set_set,hw]
  rfl
 ·intro n l hl2 hll
  have:¬ (L.length:Int)<(l.length:Int):=by omega
  simp only [z9d_,this,decide_false,Bool.false_eq_true,if_false]
  rw [hl2]
theorem zvl_ {k:Nat} (hk:KK≤k) {L:List Edg} {m:Int} (h0:0≤m) (h1:m+(sumL (fun _:Edg=>3) L:Int)≤10000000000000000) (hL:L.length≤1000000000000) :
  zf0_ k m L=some ((m+(sumL (fun _:Edg=>3) L:Int),()),((mkL mkAr L m).1,()),()):=by
 have hK:=zj_
 unfold zf0_
 refine z6g_ zoy_ L (m0:=m) (B:=10000000000000000) h1 (S:=fun l=>l) (L:=fun n m i q=>z9e_ k n m i q (fun k_9 q_10=>some ((k_9,()),(q_10,()),()))) ?_ ?_ (n:=k) (by omega)
 ·intro n i m' l y hll hg hy m0 m1 hlt hlt'
  have hw:=zi_ (i:=i) (by omega)
  have w1:z0_ (m'+1)=m'+1:=w_id (by omega) (by omega)
  have w2:z0_ (m'+1+1)=m'+1+1:=w_id (by omega) (by omega)
  have w3:z0_ (m'+1+1+1)=m'+((3:Nat):Int):=by rw [w_id (by omega) (by omega)]; omega
  simp only [z9e_,hlt,hlt',decide_true,if_true,Option.bind_some,Int.natCast_nonneg,Int.toNat_natCast,and_self,hg,List.length_set,List.getElem?_set_self hlt',w1,w2,w3,List.set_set,hw]
  rfl
 ·intro n l hl2 hll
  have:¬ (L.length:Int)<(l.length:Int):=by omega
  simp only [z9e_,this,decide_false,Bool.false_eq_true,if_false]
  rw [hl2]
theorem zgf_ {α:Type}:∀ l:List α,sumL (fun _=>3) l=3*l.length
 | []=>rfl
 | x::l=>by rw [z3p_,zgf_ l,List.length_cons]; omega
theorem zvm_ {k:Nat} (hk:KK≤k) (a1 a2 a3 a4 a5 a6 a7:Int) {q1:List (List Int)} {q2:List Int} {q3:List Mat} {q4 q5:List Int} {q6:List Edg} {q7 q8:List Int} {q9:List Edg} {q10:List Int}
  (h1:z1x_ q1≤1048576) (h2:q2.length≤1048576) (h3:z1y_ q3≤1048576) (h4:q4.length≤1048576) (h5:q5.length≤1048576) (h6:q6.length≤1048576) (h7:q7.length≤1048576) (h8:q8.length≤1048576) (h9:q9.length≤1048576) (h10:q10.length≤1048576) :
  ∃ y,zbg_ k a1 a2 a3 a4 a5 a6 a7 1 q1 q2 q3 q4 q5 q6 q7 q8 q9 q10=some y∧¬ y.1.1<0:=by
 have e1:z1x_ q1=q1.length+sumL List.length q1:=rfl
 have e3:z1y_ q3=q3.length+sumL z1i_ q3:=rfl
 have c3:sumL ctM q3≤sumL z1i_ q3+3*q3.length:=zox_ fun x _=>by
  have a:ctM x=x.2.2.2.length+3:=rfl
  have b:z1i_ x=x.2.2.2.length:=rfl
  omega
 have s1:=zvf_ hk (L:=q1) (m:=1) (by omega) (by omega) (fun x hx=>by have:=z5k_ List.length hx; omega) (by omega)
 have s2:=fun (q:List Int) (hq:q.length≤1048576) m (h0:0≤m) (h1:m≤1000000000)=>zvg_ hk (a:=q) (m:=m) h0 (by omega) (by omega)
 have s3:=fun m (h0:0≤m) (h1:m≤1000000000)=>zvj_ hk (L:=q3) (m:=m) h0 (by omega) (fun x hx=>by have:=z5k_ z1i_ hx; have b:z1i_ x=x.2.2.2.length:=rfl; omega) (by omega)
 have s6:=fun m (h0:0≤m) (h1:m≤1000000000)=>zvk_ hk (L:=q6) (m:=m) h0 (by rw [zgf_]; omega) (by omega)
 have s9:=fun m (h0:0≤m) (h1:m≤1000000000)=>zvl_ hk (L:=q9) (m:=m) h0 (by rw [zgf_]; omega) (by omega)
 rw [zgf_] at s6 s9
 unfold zbg_ zia_ zi9_ zib_ zic_
 rw [s1]
 simp only [Option.bind_some]
 rw [s2 q2 h2 _ (by omega) (by omega)]
 simp only [Option.bind_some]
 rw [s3 _ (by omega) (by omega)]
 simp only [Option.bind_some]
 rw [s2 q4 h4 _ (by omega) (by omega)]
 simp only [Option.bind_some]
 rw [s2 q5 h5 _ (by omega) (by omega)]
 simp only [Option.bind_some]
 rw [s6 _ (by omega) (by omega)]
 simp only [Option.bind_some]
 rw [s2 q7 h7 _ (by omega) (by omega)]
 simp only [Option.bind_some]
 rw [s2 q8 h8 _ (by omega) (by omega)]
 simp only [Option.bind_some]
 rw [s9 _ (by omega) (by omega)]
 simp only [Option.bind_some]
 rw [s2 q10 h10 _ (by omega) (by omega)]
 refine ⟨_,rfl,?_⟩
 simp only
 omega
theorem z6k_ {k:Nat} (hk:KK≤k) {a:List Int} (h:zf_ a≤10000000000):z42_ k a=some a:=by
 have hl:a.length≤10000000000:=Nat.le_trans (show a.length≤zf_ a by unfold zf_; omega) h
 unfold z42_
 have hL:=z2k_
 rw [if_pos ⟨by omega,Int.le_refl _,by omega⟩]
 refine zba_ (L:=fun n i q=>z8p_ k n a i q fun q_5=>some q_5) (e:=fun q=>some q) a _ (by simp) ?_ ?_ (n:=k) (by have:=zj_; omega)
 ·intro n i x q hx hlt hq
  have hw:=zi_ (i:=i) (by omega)
  have hi:i<q.length:=by omega
  simp [z8p_,hlt,hx,hw,hi]
 ·intro n q
  simp [z8p_]
theorem zvn_ {k:Nat} (hk:KK≤k) {a:List (List Int)} (h:z1x_ a≤10000000000):zdt_ k a=some a:=by
 have hl:a.length≤10000000000:=Nat.le_trans (show a.length≤z1x_ a by unfold z1x_; omega) h
 unfold zdt_
 have hL:=z2k_
 rw [if_pos ⟨by omega,Int.le_refl _,by omega⟩]
 refine zba_ (L:=fun n i q=>z8q_ k n a i q fun q_5=>some q_5) (e:=fun q=>some q) a _ (by simp) ?_ ?_ (n:=k) (by have:=zj_; omega)
 ·intro n i x q hx hlt hq
  have hw:=zi_ (i:=i) (by omega)
  have hi:i<q.length:=by omega
  have hm:=z5k_ zf_ (List.mem_of_getElem? hx)
  have hb:zf_ x≤10000000000:=by unfold z1x_ at h; omega
  simp [z8q_,z6k_ hk hb,hlt,hx,hw,hi]
 ·intro n q
  simp [z8q_]
theorem zvo_ {k:Nat} (hk:KK≤k) {a:List (List Int)} (h:z2n_ a≤10000000000):zdu_ k a=some a:=by
 have b0:(z1x_ a)≤10000000000:=by unfold z2n_ at h; omega
 unfold zdu_
 simp only [zvn_ hk b0,Option.bind_some] <;> rfl
theorem zvp_ {k:Nat} (hk:KK≤k) {a:Int×Int×Int×List Int} (h:z1i_ a≤10000000000):zdv_ k a=some a:=by
 have b3:(zf_ (a.2.2.2))≤10000000000:=by unfold z1i_ at h; omega
 unfold zdv_
 simp only [z6k_ hk b3,Option.bind_some] <;> rfl
theorem zvq_ {k:Nat} (hk:KK≤k) {a:List (Int×Int×Int×List Int)} (h:z1y_ a≤10000000000):zdw_ k a=some a:=by
 have hl:a.length≤10000000000:=Nat.le_trans (show a.length≤z1y_ a by unfold z1y_; omega) h
 unfold zdw_
 have hL:=z2k_
 rw [if_pos ⟨by omega,Int.le_refl _,by omega⟩]
 refine zba_ (L:=fun n i q=>z8r_ k n a i q fun q_5=>some q_5) (e:=fun q=>some q) a _ (by simp) ?_ ?_ (n:=k) (by have:=zj_; omega)
 ·intro n i x q hx hlt hq
  have hw:=zi_ (i:=i) (by omega)
  have hi:i<q.length:=by omega
  have hm:=z5k_ z1i_ (List.mem_of_getElem? hx)
  have hb:z1i_ x≤10000000000:=by unfold z1y_ at h; omega
  simp [z8r_,zvp_ hk hb,hlt,hx,hw,hi]
 ·intro n q
  simp [z8r_]
theorem zvr_ {k:Nat} (hk:KK≤k) {a:List (List Int)×Int×List Int×(List (Int×Int×Int×List Int))} (h:zt_ a≤10000000000):zdx_ k a=some a:=by
 have b0:(z2n_ (a.1))≤10000000000:=by unfold zt_ at h; omega
 have b2:(zf_ (a.2.2.1))≤10000000000:=by unfold zt_ at h; omega
 have b3:(z1y_ (a.2.2.2))≤10000000000:=by unfold zt_ at h; omega
 unfold zdx_
 simp only [zvo_ hk b0,z6k_ hk b2,zvq_ hk b3,Option.bind_some] <;> rfl
theorem zvs_ {a:Int×Int×Int} :zdy_ a=some a:=by
 unfold zdy_
 rfl
theorem zvt_ {k:Nat} (hk:KK≤k) {a:List (Int×Int×Int)} (h:z31_ a≤10000000000):zdz_ k a=some a:=by
 have hl:a.length≤10000000000:=Nat.le_trans (show a.length≤z31_ a by unfold z31_; omega) h
 unfold zdz_
 have hL:=z2k_
 rw [if_pos ⟨by omega,Int.le_refl _,by omega⟩]
 refine zba_ (L:=fun n i q=>z8s_ k n a i q fun q_5=>some q_5) (e:=fun q=>some q) a _ (by simp) ?_ ?_ (n:=k) (by have:=zj_; omega)
 ·intro n i x q hx hlt hq
  have hw:=zi_ (i:=i) (by omega)
  have hi:i<q.length:=by omega
  simp [z8s_,zvs_,hlt,hx,hw,hi]
 ·intro n q
  simp [z8s_]
theorem zvu_ {k:Nat} (hk:KK≤k) {a:Int×Int×Int×(List (Int×Int×Int))} (h:z1t_ a≤10000000000):ze0_ k a=some a:=by
 have b3:(z31_ (a.2.2.2))≤10000000000:=by unfold z1t_ at h; omega
 unfold ze0_
 simp only [zvt_ hk b3,Option.bind_some] <;> rfl
theorem zvv_ {a:Int×Int×Int} :ze1_ a=some a:=by
 unfold ze1_
 rfl
theorem zvw_ {k:Nat} (hk:KK≤k) {a:List (Int×Int×Int)} (h:z32_ a≤10000000000):ze2_ k a=some a:=by
 have hl:a.length≤10000000000:=Nat.le_trans (show a.length≤z32_ a by unfold z32_; omega) h
 unfold ze2_
 have hL:=z2k_
 rw [if_pos ⟨by omega,Int.le_refl _,by omega⟩]
 refine zba_ (L:=fun n i q=>z8t_ k n a i q fun q_5=>some q_5) (e:=fun q=>some q) a _ (by simp) ?_ ?_ (n:=k) (by have:=zj_; omega)
 ·intro n i x q hx hlt hq
  have hw:=zi_ (i:=i) (by omega)
  have hi:i<q.length:=by omega
  simp [z8t_,zvv_,hlt,hx,hw,hi]
 ·intro n q
  simp [z8t_]
theorem zvx_ {k:Nat} (hk:KK≤k) {a:Int×Int×(List (Int×Int×Int))} (h:z33_ a≤10000000000):ze3_ k a=some a:=by
 have b2:(z32_ (a.2.2))≤10000000000:=by unfold z33_ at h; omega
 unfold ze3_
 simp only [zvw_ hk b2,Option.bind_some] <;> rfl
theorem zvy_ {k:Nat} (hk:KK≤k) {a:(List (List Int)×Int×List Int×(List (Int×Int×Int×List Int)))×Int×List Int×List Int×(Int×Int×Int×(List (Int×Int×Int)))×List Int×List Int×(Int×Int×(List (Int×Int×Int)))×List Int} (h:z14_ a≤10000000000):z79_ k a=some a:=by
 have b0:(zt_ (a.1))≤10000000000:=by unfold z14_ at h; omega
 have b2:(zf_ (a.2.2.1))≤10000000000:=by unfold z14_ at h; omega
 have b3:(zf_ (a.2.2.2.1))≤10000000000:=by unfold z14_ at h; omega
 have b4:(z1t_ (a.2.2.2.2.1))≤10000000000:=by unfold z14_ at h; omega
 have b5:(zf_ (a.2.2.2.2.2.1))≤10000000000:=by unfold z14_ at h; omega
 have b6:(zf_ (a.2.2.2.2.2.2.1))≤10000000000:=by unfold z14_ at h; omega
 have b7:(z33_ (a.2.2.2.2.2.2.2.1))≤10000000000:=by unfold z14_ at h; omega
 have b8:(zf_ (a.2.2.2.2.2.2.2.2))≤10000000000:=by unfold z14_ at h; omega
 unfold z79_
 simp only [zvr_ hk b0,z6k_ hk b2,z6k_ hk b3,zvu_ hk b4,z6k_ hk b5,z6k_ hk b6,zvx_ hk b7,z6k_ hk b8,Option.bind_some] <;> rfl
theorem z6l_ {k:Nat} (hk:KK≤k) {a b:List Int} (h:zf_ a≤10000000000):z43_ k a b=some (decide (a=b)):=by
 have hle:a.length≤10000000000:=Nat.le_trans (show a.length≤zf_ a by unfold zf_; omega) h
 unfold z43_
 by_cases hl:a.length=b.length
 ·rw [if_neg (by simp [hl])]
  refine z73_ (L:=fun n i=>z93_ k n a b i (some true)) a b hl ?_ ?_ (n:=k) (by have:=zj_; omega)
  ·intro n i x y hx hy hlt
   have hw:=zi_ (i:=i) (by omega)
   by_cases e:x=y <;> simp [z93_,hlt,hx,hy,hw,e]
  ·intro n
   simp [z93_]
 ·have h2:a≠b:=fun e=>hl (by rw [e])
  have h3:¬ (a.length:Int)=b.length:=by omega
  simp [h3,h2]
theorem zvz_ {k:Nat} (hk:KK≤k) {a b:List (List Int)} (h:z1x_ a≤10000000000):zej_ k a b=some (decide (a=b)):=by
 have hle:a.length≤10000000000:=Nat.le_trans (show a.length≤z1x_ a by unfold z1x_; omega) h
 unfold zej_
 by_cases hl:a.length=b.length
 ·rw [if_neg (by simp [hl])]
  refine z73_ (L:=fun n i=>z94_ k n a b i (some true)) a b hl ?_ ?_ (n:=k) (by have:=zj_; omega)
  ·intro n i x y hx hy hlt
   have hw:=zi_ (i:=i) (by omega)
   have hm:=z5k_ zf_ (List.mem_of_getElem? hx)
   have hb:zf_ x≤10000000000:=by unfold z1x_ at h; omega
   simp only [z94_,hlt,decide_true,if_true,Int.natCast_nonneg,Int.toNat_natCast,hx,hy,Option.bind_some,hw,z6l_ hk hb]
   by_cases e:x=y
   ·rw [decide_eq_true e,if_pos e]; simp
   ·rw [decide_eq_false e,if_neg e]; simp
  ·intro n
   simp [z94_]
 ·have h2:a≠b:=fun e=>hl (by rw [e])
  have h3:¬ (a.length:Int)=b.length:=by omega
  simp [h3,h2]
theorem zw0_ {k:Nat} (hk:KK≤k) {a b:List (List Int)} (h:z2n_ a≤10000000000):zek_ k a b=some (decide (a=b)):=by
 have c0:(z1x_ a)≤10000000000:=by unfold z2n_ at h; omega
 unfold zek_
 simp only [zvz_ hk c0,Option.bind_some,Prod.mk.injEq]
 by_cases x0:a=b
 case neg=>simp [x0]
 subst x0
 simp
theorem zw1_ {k:Nat} (hk:KK≤k) {a b:Int×Int×Int×List Int} (h:z1i_ a≤10000000000):zel_ k a b=some (decide (a=b)):=by
 obtain ⟨a0,a1,a2,a3⟩:=a
 obtain ⟨b0,b1,b2,b3⟩:=b
 have c3:(zf_ a3)≤10000000000:=by unfold z1i_ at h; simp only at h; omega
 unfold zel_
 simp only [z6l_ hk c3,Option.bind_some,Prod.mk.injEq]
 by_cases x0:a0=b0
 case neg=>simp [x0]
 subst x0
 by_cases x1:a1=b1
 case neg=>simp [x1]
 subst x1
 by_cases x2:a2=b2
 case neg=>simp [x2]
 subst x2
 by_cases x3:a3=b3
 case neg=>simp [x3]
 subst x3
 simp
theorem zw2_ {k:Nat} (hk:KK≤k) {a b:List (Int×Int×Int×List Int)} (h:z1y_ a≤10000000000):zem_ k a b=some (decide (a=b)):=by
 have hle:a.length≤10000000000:=Nat.le_trans (show a.length≤z1y_ a by unfold z1y_; omega) h
 unfold zem_
 by_cases hl:a.length=b.length
 ·rw [if_neg (by simp [hl])]
  refine z73_ (L:=fun n i=>z95_ k n a b i (some true)) a b hl ?_ ?_ (n:=k) (by have:=zj_; omega)
  ·intro n i x y hx hy hlt
   have hw:=zi_ (i:=i) (by omega)
   have hm:=z5k_ z1i_ (List.mem_of_getElem? hx)
   have hb:z1i_ x≤10000000000:=by unfold z1y_ at h; omega
   simp only [z95_,hlt,decide_true,if_true,Int.natCast_nonneg,Int.toNat_natCast,hx,hy,Option.bind_some,hw,zw1_ hk hb]
   by_cases e:x=y
   ·rw [decide_eq_true e,if_pos e]; simp
   ·rw [decide_eq_false e,if_neg e]; simp
  ·intro n
   simp [z95_]
 ·have h2:a≠b:=fun e=>hl (by rw [e])
  have h3:¬ (a.length:Int)=b.length:=by omega
  simp [h3,h2]
theorem zw3_ {k:Nat} (hk:KK≤k) {a b:List (List Int)×Int×List Int×(List (Int×Int×Int×List Int))} (h:zt_ a≤10000000000):zen_ k a b=some (decide (a=b)):=by
 obtain ⟨a0,a1,a2,a3⟩:=a
 obtain ⟨b0,b1,b2,b3⟩:=b
 have c0:(z2n_ a0)≤10000000000:=by unfold zt_ at h; simp only at h; omega
 have c2:(zf_ a2)≤10000000000:=by unfold zt_ at h; simp only at h; omega
 have c3:(z1y_ a3)≤10000000000:=by unfold zt_ at h; simp only at h; omega
 unfold zen_
 simp only [zw0_ hk c0,z6l_ hk c2,zw2_ hk c3,Option.bind_some,Prod.mk.injEq]
 by_cases x0:a0=b0
 case neg=>simp [x0]
 subst x0
 by_cases x1:a1=b1
 case neg=>simp [x1]
 subst x1
 by_cases x2:a2=b2
 case neg=>simp [x2]
 subst x2
 by_cases x3:a3=b3
 case neg=>simp [x3]
 subst x3
 simp
theorem zw4_ {a b:Int×Int×Int} :zeo_ a b=some (decide (a=b)):=by
 obtain ⟨a0,a1,a2⟩:=a
 obtain ⟨b0,b1,b2⟩:=b
 unfold zeo_
 simp only [Prod.mk.injEq]
 by_cases x0:a0=b0
 case neg=>simp [x0]
 subst x0
 by_cases x1:a1=b1
 case neg=>simp [x1]
 subst x1
 by_cases x2:a2=b2
 case neg=>simp [x2]
 subst x2
 simp
theorem zw5_ {k:Nat} (hk:KK≤k) {a b:List (Int×Int×Int)} (h:z31_ a≤10000000000):zep_ k a b=some (decide (a=b)):=by
 have hle:a.length≤10000000000:=Nat.le_trans (show a.length≤z31_ a by unfold z31_; omega) h
 unfold zep_
 by_cases hl:a.length=b.length
 ·rw [if_neg (by simp [hl])]
  refine z73_ (L:=fun n i=>z96_ k n a b i (some true)) a b hl ?_ ?_ (n:=k) (by have:=zj_; omega)
  ·intro n i x y hx hy hlt
   have hw:=zi_ (i:=i) (by omega)
   simp only [z96_,hlt,decide_true,if_true,Int.natCast_nonneg,Int.toNat_natCast,hx,hy,Option.bind_some,hw,zw4_]
   by_cases e:x=y
   ·rw [decide_eq_true e,if_pos e]; simp
   ·rw [decide_eq_false e,if_neg e]; simp
  ·intro n
   simp [z96_]
 ·have h2:a≠b:=fun e=>hl (by rw [e])
  have h3:¬ (a.length:Int)=b.length:=by omega
  simp [h3,h2]
theorem zw6_ {k:Nat} (hk:KK≤k) {a b:Int×Int×Int×(List (Int×Int×Int))} (h:z1t_ a≤10000000000):zeq_ k a b=some (decide (a=b)):=by
 obtain ⟨a0,a1,a2,a3⟩:=a
 obtain ⟨b0,b1,b2,b3⟩:=b
 have c3:(z31_ a3)≤10000000000:=by unfold z1t_ at h; simp only at h; omega
 unfold zeq_
 simp only [zw5_ hk c3,Option.bind_some,Prod.mk.injEq]
 by_cases x0:a0=b0
 case neg=>simp [x0]
 subst x0
 by_cases x1:a1=b1
 case neg=>simp [x1]
 subst x1
 by_cases x2:a2=b2
 case neg=>simp [x2]
 subst x2
 by_cases x3:a3=b3
 case neg=>simp [x3]
 subst x3
 simp
theorem zw7_ {a b:Int×Int×Int} :zer_ a b=some (decide (a=b)):=by
 obtain ⟨a0,a1,a2⟩:=a
 obtain ⟨b0,b1,b2⟩:=b
 unfold zer_
 simp only [Prod.mk.injEq]
 by_cases x0:a0=b0
 case neg=>simp [x0]
 subst x0
 by_cases x1:a1=b1
 case neg=>simp [x1]
 subst x1
 by_cases x2:a2=b2
 case neg=>simp [x2]
 subst x2
 simp
theorem zw8_ {k:Nat} (hk:KK≤k) {a b:List (Int×Int×Int)} (h:z32_ a≤10000000000):zes_ k a b=some (decide (a=b)):=by
 have hle:a.length≤10000000000:=Nat.le_trans (show a.length≤z32_ a by unfold z32_; omega) h
 unfold zes_
 by_cases hl:a.length=b.length
 ·rw [if_neg (by simp [hl])]
  refine z73_ (L:=fun n i=>z97_ k n a b i (some true)) a b hl ?_ ?_ (n:=k) (by have:=zj_; omega)
  ·intro n i x y hx hy hlt
   have hw:=zi_ (i:=i) (by omega)
   simp only [z97_,hlt,decide_true,if_true,Int.natCast_nonneg,Int.toNat_natCast,hx,hy,Option.bind_some,hw,zw7_]
   by_cases e:x=y
   ·rw [decide_eq_true e,if_pos e]; simp
   ·rw [decide_eq_false e,if_neg e]; simp
  ·intro n
   simp [z97_]
 ·have h2:a≠b:=fun e=>hl (by rw [e])
  have h3:¬ (a.length:Int)=b.length:=by omega
  simp [h3,h2]
theorem zw9_ {k:Nat} (hk:KK≤k) {a b:Int×Int×(List (Int×Int×Int))} (h:z33_ a≤10000000000):zet_ k a b=some (decide (a=b)):=by
 obtain ⟨a0,a1,a2⟩:=a
 obtain ⟨b0,b1,b2⟩:=b
 have c2:(z32_ a2)≤10000000000:=by unfold z33_ at h; simp only at h; omega
 unfold zet_
 simp only [zw8_ hk c2,Option.bind_some,Prod.mk.injEq]
 by_cases x0:a0=b0
 case neg=>simp [x0]
 subst x0
 by_cases x1:a1=b1
 case neg=>simp [x1]
 subst x1
 by_cases x2:a2=b2
 case neg=>simp [x2]
 subst x2
 simp
theorem zwa_ {k:Nat} (hk:KK≤k) {a b:(List (List Int)×Int×List Int×(List (Int×Int×Int×List Int)))×Int×List Int×List Int×(Int×Int×Int×(List (Int×Int×Int)))×List Int×List Int×(Int×Int×(List (Int×Int×Int)))×List Int} (h:z14_ a≤10000000000):zeu_ k a b=some (decide (a=b)):=by
 obtain ⟨a0,a1,a2,a3,a4,a5,a6,a7,a8⟩:=a
 obtain ⟨b0,b1,b2,b3,b4,b5,b6,b7,b8⟩:=b
 have c0:(zt_ a0)≤10000000000:=by unfold z14_ at h; simp only at h; omega
 have c2:(zf_ a2)≤10000000000:=by unfold z14_ at h; simp only at h; omega
 have c3:(zf_ a3)≤10000000000:=by unfold z14_ at h; simp only at h; omega
 have c4:(z1t_ a4)≤10000000000:=by unfold z14_ at h; simp only at h; omega
 have c5:(zf_ a5)≤10000000000:=by unfold z14_ at h; simp only at h; omega
 have c6:(zf_ a6)≤10000000000:=by unfold z14_ at h; simp only at h; omega
 have c7:(z33_ a7)≤10000000000:=by unfold z14_ at h; simp only at h; omega
 have c8:(zf_ a8)≤10000000000:=by unfold z14_ at h; simp only at h; omega
 unfold zeu_
 simp only [zw3_ hk c0,z6l_ hk c2,z6l_ hk c3,zw6_ hk c4,z6l_ hk c5,z6l_ hk c6,zw9_ hk c7,z6l_ hk c8,Option.bind_some,Prod.mk.injEq]
 by_cases x0:a0=b0
 case neg=>simp [x0]
 subst x0
 by_cases x1:a1=b1
 case neg=>simp [x1]
 subst x1
 by_cases x2:a2=b2
 case neg=>simp [x2]
 subst x2
 by_cases x3:a3=b3
 case neg=>simp [x3]
 subst x3
 by_cases x4:a4=b4
 case neg=>simp [x4]
 subst x4
 by_cases x5:a5=b5
 case neg=>simp [x5]
 subst x5
 by_cases x6:a6=b6
 case neg=>simp [x6]
 subst x6
 by_cases x7:a7=b7
 case neg=>simp [x7]
 subst x7
 by_cases x8:a8=b8
 case neg=>simp [x8]
 subst x8
 simp
theorem zwb_ (x:(List (List Int)×Int×List Int×(List (Int×Int×Int×List Int)))×Int×List Int×List Int×(Int×Int×Int×(List (Int×Int×Int)))×List Int×List Int×(Int×Int×(List (Int×Int×Int)))×List Int):((x.1.1,(x.1.2.1,(x.1.2.2.1,x.1.2.2.2))),(x.2.1,(x.2.2.1,(x.2.2.2.1,((x.2.2.2.2.1.1,(x.2.2.2.2.1.2.1,(x.2.2.2.2.1.2.2.1,x.2.2.2.2.1.2.2.2))),(x.2.2.2.2.2.1,(x.2.2.2.2.2.2.1,((x.2.2.2.2.2.2.2.1.1,(x.2.2.2.2.2.2.2.1.2.1,x.2.2.2.2.2.2.2.1.2.2)),x.2.2.2.2.2.2.2.2))))))))=x:=rfl
instance dec_Problem_1:DecidableEq (List UInt8×List UInt8):=inferInstance
instance dec_Problem:DecidableEq (Int×List UInt8×List UInt8):=inferInstance
def z7u_ (a:Int×List UInt8×List UInt8):Nat:=(List.length (a.2.1))+(List.length (a.2.2))
instance dec_ProblemS:DecidableEq (List (Int×List UInt8×List UInt8)):=inferInstance
def z4b_ (a:List (Int×List UInt8×List UInt8)):Nat:=a.length+sumL z7u_ a
theorem zwc_ {a b:Int×List UInt8×List UInt8} (h:z7u_ a≤10000000000):zei_ a b=some (decide (a=b)):=by
 obtain ⟨a0,a1,a2⟩:=a
 obtain ⟨b0,b1,b2⟩:=b
 unfold zei_
 simp only [Prod.mk.injEq]
 by_cases x0:a0=b0
 case neg=>simp [x0]
 subst x0
 by_cases x1:a1=b1
 case neg=>simp [x1]
 subst x1
 by_cases x2:a2=b2
 case neg=>simp [x2]
 subst x2
 simp
theorem zwd_ {k:Nat} (hk:KK≤k) {a b:List (Int×List UInt8×List UInt8)} (h:z4b_ a≤10000000000):z77_ k a b=some (decide (a=b)):=by
 have hle:a.length≤10000000000:=Nat.le_trans (show a.length≤z4b_ a by unfold z4b_; omega) h
 unfold z77_
 by_cases hl:a.length=b.length
 ·rw [if_neg (by simp [hl])]
  refine z73_ (L:=fun n i=>z92_ k n a b i (some true)) a b hl ?_ ?_ (n:=k) (by have:=zj_; omega)
  ·intro n i x y hx hy hlt
   have hw:=zi_ (i:=i) (by omega)
   have hm:=z5k_ z7u_ (List.mem_of_getElem? hx)
   have hb:z7u_ x≤10000000000:=by unfold z4b_ at h; omega
   simp only [z92_,hlt,decide_true,if_true,Int.natCast_nonneg,Int.toNat_natCast,hx,hy,Option.bind_some,hw,zwc_ hb]
   by_cases e:x=y
   ·rw [decide_eq_true e,if_pos e]; simp
   ·rw [decide_eq_false e,if_neg e]; simp
  ·intro n
   simp [z92_]
 ·have h2:a≠b:=fun e=>hl (by rw [e])
  have h3:¬ (a.length:Int)=b.length:=by omega
  simp [h3,h2]
theorem zka_ {k:Nat} {w:Wrk} (h:z4a_ k w=true):sheB k w.1=true∧(0≤w.2.1∧w.2.1≤3)∧colB w.2.2.1 (zv_ w.1.2.2.1 (ofC w.1.1 w.2.1)) w.1.2.1=true∧colB w.2.2.2.1 (zv_ w.1.2.2.1 (ofC w.1.1 0)) w.1.2.1=true∧netB w.2.2.2.2.1=true∧z4s_ w.2.2.2.2.2.2.2.1=true∧colB w.2.2.2.2.2.2.2.2 w.2.2.2.2.2.2.2.1.1 w.2.2.2.2.2.2.2.1.2.1=true:=by
 unfold z4a_ at h
 simp only [Bool.and_eq_true,decide_eq_true_eq] at h
 exact ⟨h.1,h.2.1,h.2.2.1,h.2.2.2.1,h.2.2.2.2.1,h.2.2.2.2.2.1,h.2.2.2.2.2.2⟩
theorem zwe_ {k:Nat} (hk:KK≤k) {a:Wrk} (h:z14_ a≤1048576):∃ y,zbg_ k a.1.2.1 a.2.1 a.2.2.2.2.1.1 a.2.2.2.2.1.2.1 a.2.2.2.2.1.2.2.1 a.2.2.2.2.2.2.2.1.1 a.2.2.2.2.2.2.2.1.2.1 1 a.1.1 a.1.2.2.1 a.1.2.2.2 a.2.2.1 a.2.2.2.1 a.2.2.2.2.1.2.2.2 a.2.2.2.2.2.1 a.2.2.2.2.2.2.1 a.2.2.2.2.2.2.2.1.2.2 a.2.2.2.2.2.2.2.2=some y∧¬ y.1.1<0:=by
 have e:z14_ a=zt_ a.1+a.2.2.1.length+a.2.2.2.1.length+a.2.2.2.2.1.2.2.2.length+a.2.2.2.2.2.1.length+a.2.2.2.2.2.2.1.length+a.2.2.2.2.2.2.2.1.2.2.length+a.2.2.2.2.2.2.2.2.length:=rfl
 have e2:zt_ a.1=z1x_ a.1.1+a.1.2.2.1.length+z1y_ a.1.2.2.2:=rfl
 exact zvm_ hk _ _ _ _ _ _ _ (by omega) (by omega) (by omega) (by omega) (by omega) (by omega) (by omega) (by omega) (by omega) (by omega)
theorem zkb_ {u j:Nat} (h:u<10 ^ j) (hj:1≤j):(Lib.decDigits u).length≤j:=by
 by_cases h0:u=0
 ·subst h0; rw [Lib.decDigits,dif_pos (by omega)]; exact hj
 ·have:=zjq_ j u h
  unfold revD at this
  rw [if_neg h0] at this
  simpa using this
theorem zwf_ {n:Int} (h:-9223372036854775808≤n) (h2:n≤9223372036854775807):(Lib.itoa n).length≤21:=by
 unfold Lib.itoa
 split
 ·rw [List.length_cons]
  have:=zkb_ (u:=n.natAbs) (j:=20) (by omega) (by omega)
  first | omega | (have:=zkb_ (u:=(-n).toNat) (j:=20) (by omega) (by omega); omega)
 ·have:=zkb_ (u:=n.toNat) (j:=20) (by omega) (by omega)
  omega
theorem zwg_ {n:Net} (f s:List Int) (h:netB n=true):z4b_ (z3r_ n f s)≤100:=by
 unfold z3r_
 split
 ·rename_i hb
  obtain ⟨_,r2,r3⟩:=zk7_ (s:=s) h hb
  have:=zwf_ r2 r3
  split
  ·split
   ·simp [z4b_,sumL]
   ·simp only [z4b_,sumL,z7u_,List.map,List.sum,List.length_cons,List.length_nil,List.foldr]
    omega
  ·simp [z4b_,sumL,z7u_]
 ·simp [z4b_,sumL,z7u_]
theorem zwh_ {k:Nat} (hk:KK≤k) {w:Wrk} (hs:smallW w) (hf:w.2.2.2.2.2.1.length≤1048576) (hc:w.2.2.2.2.2.2.1.length≤1048576):zf2_ k w=some (if z4a_ k w=true then (z3r_ w.2.2.2.2.1 w.2.2.2.2.2.1 w.2.2.2.2.2.2.1,0) else ([],1)):=by
 unfold zf2_ zja_
 rw [zuz_ hk hs]
 cases h:z4a_ k w
 ·simp
 ·have hn:=(zka_ h).2.2.2.2.1
  simp [zuv_ hk hn hf hc]
theorem zwi_ {k:Nat} (hk:KK≤k) {w:Wrk} (hs:smallW w) (hf:w.2.2.2.2.2.1.length≤1048576) (hc:w.2.2.2.2.2.2.1.length≤1048576):zbf_ k w=some (if z4a_ k w=true then (z3r_ w.2.2.2.2.1 w.2.2.2.2.2.1 w.2.2.2.2.2.2.1,0) else ([],1)):=by
 have hK:=zj_
 obtain ⟨j,rfl⟩:∃ j,k=j+2:=⟨k-2,by omega⟩
 unfold zbf_ zi8_
 rw [zv0_ hk hs]
 cases h:z4a_ (j+2) w
 ·simp
 ·have hn:=(zka_ h).2.2.2.2.1
  have hl:=zou_ w.2.2.2.2.1 w.2.2.2.2.2.1 w.2.2.2.2.2.2.1
  have hL:(([]:List Prb).length+(z3r_ w.2.2.2.2.1 w.2.2.2.2.2.1 w.2.2.2.2.2.2.1).length)*40≤LIM:=by unfold LIM; simp only [List.length_nil]; omega
  have c1:((1:Nat):Int)=1:=rfl
  have w1:z0_ (0+1)=1:=w_id (by omega) (by omega)
  simp only [Option.bind_some,Bool.not_true,Bool.false_eq_true,if_false,if_true,zeh_,List.length_cons,List.length_nil,Nat.zero_add,c1,Int.toNat_zero,Int.zero_lt_one,decide_true,Int.le_refl,List.getElem?_cons_zero,zuw_ hk hn hf hc,hL,w1,Int.lt_irrefl,decide_false,List.nil_append]
  rw [if_pos (by unfold LIM; omega)]
  rfl
theorem zwj_ {e0 e1 e2 e3 e4 e5 e6 e7 e8 e9 e10 e11:TypeId} (a0:Wrk) (f0:InR (.st (.pr (.st (.pr (.st (.sl e0 (.sl e1 (.int .i64)))) (.pr (.int .i64) (.pr (.sl e2 (.int .i64)) (.sl e3 (.st (.pr (.int .i64) (.pr (.int .i64) (.pr (.int .i64) (.sl e4 (.int .i64))))))))))) (.pr (.int .i64) (.pr (.sl e5 (.int .i64)) (.pr (.sl e6 (.int .i64)) (.pr (.st (.pr (.int .i64) (.pr (.int .i64) (.pr (.int .i64) (.sl e7 (.st (.pr (.int .i64) (.pr (.int .i64) (.int .i64))))))))) (.pr (.sl e8 (.int .i64)) (.pr (.sl e9 (.int .i64)) (.pr (.st (.pr (.int .i64) (.pr (.int .i64) (.sl e10 (.st (.pr (.int .i64) (.pr (.int .i64) (.int .i64)))))))) (.sl e11 (.int .i64))))))))))) a0):∃ k:Nat,zf1_ k a0=some true:=by
 have hk:=Nat.le_refl KK
 refine ⟨KK,?_⟩
 have q0:=zvb_ hk (a:=a0) (left:=1048576) (by omega) (by omega) f0
 unfold zf1_
 rw [q0]
 by_cases c0:(z14_ a0:Int)≤1048576
 case neg=>rw [if_neg c0]; simp only [Option.bind_some]; rw [decide_eq_true (by omega),if_pos rfl]
 rw [if_pos c0]; simp only [Option.bind_some]
 rw [decide_eq_false (by omega),if_neg (by simp)]
 have b0:z14_ a0≤10000000000:=by omega
 have hs:=zvc_ (w:=a0) (by omega)
 have e:z14_ a0=zt_ a0.1+a0.2.2.1.length+a0.2.2.2.1.length+a0.2.2.2.2.1.2.2.2.length+a0.2.2.2.2.2.1.length+a0.2.2.2.2.2.2.1.length+a0.2.2.2.2.2.2.2.1.2.2.length+a0.2.2.2.2.2.2.2.2.length:=rfl
 have h1:=zwh_ hk hs (by omega) (by omega)
 have h2:=zwi_ hk hs (by omega) (by omega)
 obtain ⟨y,hy,hy0⟩:=zwe_ hk (a:=a0) (by omega)
 obtain ⟨r,hr⟩:∃ r:List Prb×Int,r=if z4a_ KK a0=true then (z3r_ a0.2.2.2.2.1 a0.2.2.2.2.2.1 a0.2.2.2.2.2.2.1,0) else ([],1):=⟨_,rfl⟩
 rw [← hr] at h1 h2
 have hl:r.1.length≤1:=by
  rw [hr]
  split
  ·exact zou_ _ _ _
  ·simp
 have hz:z4b_ r.1≤100:=by
  rw [hr]
  split
  ·rename_i hb
   exact zwg_ _ _ (zka_ hb).2.2.2.2.1
  ·simp [z4b_,sumL]
 obtain ⟨m,q,hm,hq,hm0⟩:=ztw_ hk (L:=r.1) (by omega)
 have heq:z77_ KK r.1 r.1=some true:=(zwd_ hk (a:=r.1) (b:=r.1) (by omega)).trans (congrArg some (decide_eq_true rfl))
 simp only [zvy_ hk b0,Option.bind_some,zwb_,h1,h2,heq,zwa_ hk b0,hy,hy0,hm,hq,hm0,decide_true,decide_false,Bool.not_true,Bool.false_eq_true,if_false]
end Go.Proofs.YthbodbmcalfmaaaGreatDoor.Ev
