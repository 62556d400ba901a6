/- Plain laws of the printed functions. No conditions but those in each statement. -/
import Derived.Test.YtioaaljaohhjiaaGreatDoorEv5
import Derived.Test.YtioaaljaohhjiaaGreatDoorG16
set_option linter.unusedVariables false
set_option linter.unusedSimpArgs false
namespace Go.Proofs.YtioaaljaohhjiaaGreatDoor.Ev
open Go.RowKit
theorem z47_ (n a b:Int):z2e_ n a b=some (decide (a≤n∧n≤b)):=by
 unfold z2e_
 by_cases h:a≤n <;> simp [h]
theorem z4q_ (n a b:Int):z1q_ n a b=some (decide (a≤n∧n≤b)):=by
 unfold z1q_
 by_cases h:a≤n <;> simp [h]
theorem zax_ {α:Type} (p:α→Bool) (xs:List α):decide (0≤idxP p xs)=xs.any p:=by
 unfold idxP
 cases h:xs.findIdx? p with
 | some i =>
  obtain ⟨hlt,hp,_⟩:=List.findIdx?_eq_some_iff_getElem.1 h
  have:xs.any p=true:=List.any_eq_true.2 ⟨_,List.getElem_mem hlt,hp⟩
  rw [this]; simp
 | none =>
  rw [List.findIdx?_eq_none_iff] at h
  have:xs.any p=false:=List.any_eq_false.2 fun x hx=>by rw [h x hx]; simp
  rw [this]; simp
theorem zku_ {α:Type} {R:α→α→Prop} (tr:∀ a b c,R a b→R b c→R a c):∀ {l:List α},(∀ (i:Nat) (a b:α),l[i]?=some a→l[i+1]?=some b→R a b)→l.Pairwise R
 | [],_=>List.Pairwise.nil
 | [a],_=>List.pairwise_singleton ..
 | a::b::l,h=>by
  have h0:=h 0 a b rfl rfl
  have ih:=zku_ tr (l:=b::l) (fun i x y hx hy=>h (i+1) x y hx hy)
  refine List.Pairwise.cons (fun x hx=>?_) ih
  rcases List.mem_cons.1 hx with rfl | hx
  ·exact h0
  ·exact tr _ _ _ h0 ((List.pairwise_cons.1 ih).1 x hx)
theorem zp9_ {α:Type} {R:α→α→Prop} {l:List α} (h:l.Pairwise R) {i:Nat} {a b:α} (ha:l[i]?=some a) (hb:l[i+1]?=some b):R a b:=by
 obtain ⟨h1,rfl⟩:=List.getElem?_eq_some_iff.1 ha
 obtain ⟨h2,rfl⟩:=List.getElem?_eq_some_iff.1 hb
 exact List.pairwise_iff_getElem.1 h i (i+1) h1 h2 (by omega)
def z48_ {α:Type} (R:α→α→Prop) (l:List α) (i:Nat) (x:α):Prop:=0<i→∀ t,l[i-1]?=some t→R t x
theorem zhc_ {α:Type} {R:α→α→Prop} (tr:∀ a b c,R a b→R b c→R a c) {l:List α} {m:Nat} (h:∀ j,j<m→∀ x,l[j]?=some x→z48_ R l j x):(l.take m).Pairwise R:=by
 refine zku_ tr fun i a b ha hb=>?_
 have hi:i+1<m:=by
  have:=(List.getElem?_eq_some_iff.1 hb).1
  rw [List.length_take] at this; omega
 rw [List.getElem?_take_of_lt (by omega)] at ha
 rw [List.getElem?_take_of_lt hi] at hb
 exact h (i+1) hi b hb (by omega) a (by simpa using ha)
theorem zkv_ {α:Type} {R:α→α→Prop} {l:List α} (h:l.Pairwise R) {i:Nat} {x:α} (hx:l[i]?=some x):z48_ R l i x:=fun h0 t ht=>by
 have e:i=(i-1)+1:=by omega
 rw [e] at hx
 exact zp9_ h ht hx
theorem zv7_ {R:Type} {L:Nat→Int→R} {b:Nat} {p:Nat→Bool} {r e:R}
  (h1:∀ n (i:Nat),i<b→(∀ j,j<i→p j=true)→L (n+1) (i:Int)=if p i=true then L n ((i+1:Nat):Int) else r) (h2:∀ n,L (n+1) (b:Int)=e) {n:Nat} (hn:b<n):L n 0=if (List.range b).all p=true then e else r:=by
 refine z1z_ (α:=Nat) (A:=Unit) (L:=fun n i _=>L n i) (I:=fun pre _=>∀ j∈pre,p j=true) (G:=fun l _=>if l.all p=true then e else r) (List.range b) ?_ ?_ n (by simpa using hn) () (by simp)
 ·intro n pre x post _ hx hI ih hg hlt
  rw [List.length_range] at hlt
  have hxi:x=pre.length:=by
   rw [List.getElem?_range (by omega)] at hg
   simpa using hg.symm
  subst hxi
  have hpre:pre=List.range pre.length:=by
   have:=congrArg (List.take pre.length) hx
   rw [List.take_left,List.take_range] at this
   rw [Nat.min_eq_left (by omega)] at this
   exact this.symm
  rw [h1 n pre.length (by omega) (fun j hj=>hI j (by rw [hpre]; simpa using hj))]
  by_cases hp:p pre.length=true
  ·rw [if_pos hp,ih () (fun j hj=>by
    rcases List.mem_append.1 hj with hj | hj
    ·exact hI j hj
    ·rw [List.mem_singleton.1 hj]; exact hp)]
   simp [hp]
  ·rw [if_neg hp]; simp [hp]
 ·intro n _ _
  simpa using h2 n
structure SimpP (s:List Int):Prop where
 len1:1≤s.length
 len4:s.length≤4
 vert:∀ x∈s,0≤x∧x≤9
 rise:s.Pairwise (fun a b:Int=>a<b)
open Classical in
noncomputable def z6p_ (s:List Int):Bool:=decide (SimpP s)
theorem z6q_ {s:List Int}:z6p_ s=true↔SimpP s:=by unfold z6p_; simp
open Classical in
theorem zv8_ {k:Nat} (hk:KK≤k) {s:List Int} (hs:s.length≤1000000000) (lo up:Int):zcd_ k s lo up=some (decide ((∀ x∈s,lo≤x∧x≤up)∧s.Pairwise (fun a b:Int=>a<b))):=by
 have hK:=zk_
 unfold zcd_
 have:=z3l_ (L:=fun n i=>z7p_ k n s lo up i (some true)) (b:=s.length) (p:=fun i=>decide (∀ x,s[i]?=some x→(lo≤x∧x≤up)∧z48_ (fun a b:Int=>a<b) s i x)) (r:=some false) (e:=some true) ?_ ?_ (n:=k) (by omega)
 ·rw [this]
  have e:((List.range s.length).all (fun i=>decide (∀ x,s[i]?=some x→(lo≤x∧x≤up)∧z48_ (fun a b:Int=>a<b) s i x))=true)↔((∀ x∈s,lo≤x∧x≤up)∧s.Pairwise (fun a b:Int=>a<b)):=by
   simp only [List.all_eq_true,List.mem_range,decide_eq_true_eq]
   constructor
   ·intro h
    refine ⟨fun x hx=>?_,?_⟩
    ·obtain ⟨i,hi,rfl⟩:=List.getElem_of_mem hx
     exact (h i hi _ (List.getElem?_eq_getElem hi)).1
    ·have:=zhc_ (R:=fun a b:Int=>a<b) (fun a b c=>Int.lt_trans) (l:=s) (m:=s.length) (fun j hj x hx=>(h j hj x hx).2)
     rwa [List.take_length] at this
   ·rintro ⟨h1,h2⟩ i hi x hx
    exact ⟨h1 x (List.mem_of_getElem? hx),zkv_ h2 hx⟩
  by_cases c:((∀ x∈s,lo≤x∧x≤up)∧s.Pairwise (fun a b:Int=>a<b))
  ·rw [if_pos (e.2 c),decide_eq_true c]
  ·rw [if_neg (fun h=>c (e.1 h)),decide_eq_false c]
 ·intro n i hi
  have hlt:(i:Int)<(s.length:Int):=by omega
  have hw:=zj_ (i:=i) (by omega)
  have hg:s[i]?=some s[i]:=List.getElem?_eq_getElem hi
  simp only [z7p_,hlt,decide_true,if_true,Int.natCast_nonneg,Int.toNat_natCast,hg,Option.bind_some,hw,z4q_,Option.some.injEq,forall_eq']
  by_cases c1:lo≤s[i]∧s[i]≤up
  ·rw [decide_eq_true c1]
   simp only [Bool.not_true,Bool.false_eq_true,if_false]
   by_cases h0:0<i
   ·have h0':(0:Int)<(i:Int):=by omega
    have hw1:z0_ ((i:Int)-1)=((i-1:Nat):Int):=by rw [w_id (by omega) (by omega)]; omega
    have hg1:s[i-1]?=some s[i-1]:=List.getElem?_eq_getElem (by omega)
    simp only [h0',decide_true,if_true,hw1,Int.natCast_nonneg,Int.toNat_natCast,hg1,Option.bind_some]
    by_cases c2:s[i-1]<s[i]
    ·have:z48_ (fun a b:Int=>a<b) s i s[i]:=fun _ t ht=>by rw [hg1] at ht; cases ht; exact c2
     rw [if_neg (by simp; omega),if_pos (decide_eq_true ⟨c1,this⟩)]
    ·have:¬ z48_ (fun a b:Int=>a<b) s i s[i]:=fun h=>c2 (h h0 _ hg1)
     rw [if_pos (decide_eq_true (by omega)),if_neg (fun h=>this (of_decide_eq_true h).2)]
   ·have h0':¬ (0:Int)<(i:Int):=by omega
    have:z48_ (fun a b:Int=>a<b) s i s[i]:=fun h=>absurd h h0
    rw [decide_eq_false h0',if_neg (by simp),if_pos (decide_eq_true ⟨c1,this⟩)]
  ·rw [decide_eq_false c1,if_pos (by simp),if_neg (fun h=>c1 (of_decide_eq_true h).1)]
 ·intro n
  simp only [z7p_,Int.lt_irrefl,decide_false,Bool.false_eq_true,if_false]
open Classical in
theorem zv9_ {k:Nat} (hk:KK≤k) {s:List Int} (hs:s.length≤1000000000):zgf_ k s=some (z6p_ s):=by
 unfold zgf_
 rw [z4q_]
 simp only [Option.bind_some,zv8_ hk hs]
 by_cases c:(1:Int)≤(s.length:Int)∧(s.length:Int)≤4
 ·rw [decide_eq_true c,if_pos rfl]
  congr 1
  unfold z6p_
  refine decide_eq_decide.2 ⟨fun h=>⟨by omega,by omega,h.1,h.2⟩,fun h=>⟨h.vert,h.rise⟩⟩
 ·rw [decide_eq_false c,if_neg (by simp)]
  congr 1
  unfold z6p_
  rw [decide_eq_false (fun h:SimpP s=>c ⟨by have:=h.len1; omega,by have:=h.len4; omega⟩)]
open Classical in
theorem zva_ {k:Nat} (hk:KK≤k) {s:List Int} (hs:s.length≤1000000000):zh1_ k s=some (decide (s.Pairwise (fun a b:Int=>a<b))):=by
 have hK:=zk_
 unfold zh1_
 have key:∀ (d n i:Nat),s.length-i=d→d<n→0<i→(s.take i).Pairwise (fun a b:Int=>a<b)→zaq_ k n s (i:Int) (some true)=some (decide (s.Pairwise (fun a b:Int=>a<b))):=by
  intro d
  induction d with
  | zero =>
   intro n i hd hn h0 hp
   obtain ⟨n,rfl⟩:∃ m,n=m+1:=⟨n-1,by omega⟩
   have:¬ (i:Int)<(s.length:Int):=by omega
   rw [List.take_of_length_le (by omega)] at hp
   simp only [zaq_,this,decide_false,Bool.false_eq_true,if_false,decide_eq_true hp]
  | succ d ih =>
   intro n i hd hn h0 hp
   obtain ⟨n,rfl⟩:∃ m,n=m+1:=⟨n-1,by omega⟩
   have hi:i<s.length:=by omega
   have hlt:(i:Int)<(s.length:Int):=by omega
   have hw:=zj_ (i:=i) (by omega)
   have hw1:z0_ ((i:Int)-1)=((i-1:Nat):Int):=by rw [w_id (by omega) (by omega)]; omega
   have hg:s[i]?=some s[i]:=List.getElem?_eq_getElem hi
   have hg1:s[i-1]?=some s[i-1]:=List.getElem?_eq_getElem (by omega)
   simp only [zaq_,hlt,decide_true,if_true,Int.natCast_nonneg,Int.toNat_natCast,hg,hg1,Option.bind_some,hw,hw1]
   by_cases c:s[i-1]<s[i]
   ·rw [decide_eq_false (show ¬ s[i]≤s[i-1] by omega),if_neg (by simp)]
    refine ih n (i+1) (by omega) (by omega) (by omega) ?_
    refine zku_ (R:=fun a b:Int=>a<b) (fun a b c=>Int.lt_trans) fun j a b ha hb=>?_
    have hj:j+1<i+1:=by
     have:=(List.getElem?_eq_some_iff.1 hb).1
     rw [List.length_take] at this; omega
    rw [List.getElem?_take_of_lt (by omega)] at ha
    rw [List.getElem?_take_of_lt hj] at hb
    by_cases hji:j+1=i
    ·have e1:a=s[i-1]:=by
      have:s[j]?=s[i-1]?:=by rw [show j=i-1 by omega]
      rw [ha,hg1] at this
      exact Option.some.inj this
     have e2:b=s[i]:=by
      rw [hji,hg] at hb
      exact (Option.some.inj hb).symm
     rw [e1,e2]; exact c
    ·exact zp9_ hp (i:=j) (by rw [List.getElem?_take_of_lt (by omega)]; exact ha) (by rw [List.getElem?_take_of_lt (by omega)]; exact hb)
   ·rw [decide_eq_true (show s[i]≤s[i-1] by omega),if_pos rfl]
    congr 1
    refine (decide_eq_false fun h=>c ?_).symm
    exact List.pairwise_iff_getElem.1 h (i-1) i (by omega) hi (by omega)
 have h1:=key (s.length-1) k 1 rfl (by omega) (by omega) (by cases s with
  | nil=>simp
  | cons a l=>simp)
 exact h1
theorem zvb_ {k:Nat} (hk:KK≤k) {s:List Int} (hs:s.length≤1000000000):zh2_ k s ()=some (s.any fun x=>!decide (0≤x∧x≤9)):=by
 have hK:=zk_
 unfold zh2_ zko_
 rw [z7h_ (L:=fun n i=>zar_ k n s () (s.length:Int) i (some (-1))) (p:=fun x=>!decide (0≤x∧x≤9)) s ?_ ?_ (n:=k) (by omega)]
 ·rw [Option.bind_some,zax_]
 ·intro n i x hi hlt
  have hw:=zj_ (i:=i) (by omega)
  simp only [zar_,zkn_,zkm_,z47_,hlt,decide_true,if_true,Int.natCast_nonneg,Int.toNat_natCast,hi,Option.bind_some,hw]
 ·intro n
  simp [zar_]
theorem zvc_ {k:Nat} (hk:KK≤k) {s:List Int} (hs:s.length≤1000000000):zh3_ k s=some (z6p_ s):=by
 unfold zh3_
 by_cases c1:1≤s.length
 ·rw [decide_eq_true (show (1:Int)≤(s.length:Int) by omega),if_pos rfl]
  by_cases c2:s.length≤4
  ·rw [decide_eq_true (show (s.length:Int)≤4 by omega),if_pos rfl,zva_ hk hs,zvb_ hk hs]
   simp only [Option.bind_some]
   by_cases c3:s.Pairwise (fun a b:Int=>a<b)
   ·rw [decide_eq_true c3,if_pos rfl]
    congr 1
    rw [Bool.eq_iff_iff,z6q_]
    simp only [Bool.not_eq_true',List.any_eq_false,Bool.not_eq_true,decide_eq_false_iff_not,Bool.not_eq_false',decide_eq_true_eq]
    exact ⟨fun h=>⟨c1,c2,fun x hx=>by simpa using h x hx,c3⟩,fun h x hx=>by simpa using h.vert x hx⟩
   ·rw [decide_eq_false c3,if_neg (by simp)]
    congr 1
    symm
    rw [Bool.eq_false_iff,ne_eq,z6q_]
    exact fun h=>c3 h.rise
  ·rw [decide_eq_false (show ¬ (s.length:Int)≤4 by omega),if_neg (by simp)]
   congr 1
   symm
   rw [Bool.eq_false_iff,ne_eq,z6q_]
   exact fun h=>c2 h.len4
 ·rw [decide_eq_false (show ¬ (1:Int)≤(s.length:Int) by omega),if_neg (by simp)]
  congr 1
  symm
  rw [Bool.eq_false_iff,ne_eq,z6q_]
  exact fun h=>c1 h.len1
def cI (x y:Int):Int:=if x<y then -1 else if y<x then 1 else 0
theorem zkw_ (x y:Int):z6a_ x y=some (cI x y):=by
 unfold z6a_ zh6_ cI
 by_cases h1:x<y
 ·simp [h1]
 ·by_cases h2:y<x <;> simp [h1,h2]
theorem zvd_ (x y:Int):zh5_ x y=some (cI x y):=by
 unfold zh5_ zh4_ cI
 by_cases h1:x<y
 ·simp [h1]
 ·by_cases h2:y<x <;> simp [h1,h2]
theorem zkx_ {k:Nat} (hk:KK≤k) (a b:Int):zc8_ k [a,b]=some (if a=0 then b else a):=by
 have hK:=zk_
 obtain ⟨m,rfl⟩:∃ m,k=m+3:=⟨k-3,by omega⟩
 generalize hf:m+3=k
 have hw0:z0_ 1=1:=w_id (by omega) (by omega)
 have hw1:z0_ 2=2:=w_id (by omega) (by omega)
 show z83_ k k 0 [a,b] 2 0 (fun zero_2=>some zero_2)=_
 conv=>lhs; arg 2; rw [← hf]
 by_cases h:a=0
 ·by_cases h':b=0
  ·subst h; subst h'; simp [z83_,hw0,hw1]
  ·subst h; simp [z83_,hw0,hw1,h']
 ·simp [z83_,h]
def lexB:List Int→List Int→Bool
 | x::a,y::b=>if x=y then lexB a b else decide (x<y)
 | _,_=>false
def befS (a b:List Int):Bool:=decide (a.length<b.length)||(decide (a.length=b.length)&&lexB a b)
theorem zpa_:∀ a:List Int,lexB a a=false
 | []=>rfl
 | x::a=>by simp [lexB,zpa_ a]
theorem zpb_:∀ a b c:List Int,a.length=b.length→b.length=c.length→lexB a b=true→lexB b c=true→lexB a c=true
 | [],_,_,_,_,h,_=>by simp [lexB] at h
 | _::_,[],_,_,_,h,_=>by simp [lexB] at h
 | _::_,_::_,[],_,_,_,h=>by simp [lexB] at h
 | x::a,y::b,z::c,h1,h2,h3,h4=>by
  simp only [lexB] at h3 h4 ⊢
  by_cases c1:x=y
  ·subst c1
   rw [if_pos rfl] at h3
   by_cases c2:x=z
   ·rw [if_pos c2] at h4 ⊢
    exact zpb_ a b c (by simpa using h1) (by simpa using h2) h3 h4
   ·rw [if_neg c2] at h4 ⊢; exact h4
  ·rw [if_neg c1,decide_eq_true_eq] at h3
   by_cases c2:y=z
   ·subst c2; rw [if_neg c1,decide_eq_true_eq]; exact h3
   ·rw [if_neg c2,decide_eq_true_eq] at h4
    rw [if_neg (by omega),decide_eq_true_eq]; omega
theorem zhd_ (a:List Int):befS a a=false:=by unfold befS; simp [zpa_]
theorem zco_ {a b c:List Int} (h1:befS a b=true) (h2:befS b c=true):befS a c=true:=by
 unfold befS at *
 simp only [Bool.or_eq_true,Bool.and_eq_true,decide_eq_true_eq] at *
 rcases h1 with h1 | ⟨e1,h1⟩
 ·rcases h2 with h2 | ⟨e2,h2⟩
  ·left; omega
  ·left; omega
 ·rcases h2 with h2 | ⟨e2,h2⟩
  ·left; omega
  ·exact .inr ⟨by omega,zpb_ a b c e1 e2 h1 h2⟩
theorem zve_ {a b:List Int} (h:befS a b=true):befS b a=false:=by
 cases h':befS b a
 ·rfl
 ·have:=zco_ h h'
  rw [zhd_] at this; cases this
def cmpL:List Int→List Int→Int
 | x::a,y::b=>if cI x y=0 then cmpL a b else cI x y
 | _::_,[]=>1
 | [],_::_ => -1
 | [],[]=>0
def z4r_ (a b:List Int):Int:=if cI (a.length:Int) (b.length:Int)=0 then cmpL a b else cI (a.length:Int) (b.length:Int)
theorem z88_ (x y:Int):cI x y=0↔x=y:=by
 unfold cI
 by_cases h1:x<y
 ·rw [if_pos h1]; constructor <;> intro h <;> omega
 ·rw [if_neg h1]
  by_cases h2:y<x
  ·rw [if_pos h2]; constructor <;> intro h <;> omega
  ·rw [if_neg h2]; constructor <;> intro h <;> omega
theorem zpc_ (x y:Int):cI x y<0↔x<y:=by
 unfold cI
 by_cases h1:x<y
 ·rw [if_pos h1]; constructor <;> intro h <;> omega
 ·rw [if_neg h1]
  by_cases h2:y<x
  ·rw [if_pos h2]; constructor <;> intro h <;> omega
  ·rw [if_neg h2]; constructor <;> intro h <;> omega
theorem zpd_:∀ a b:List Int,cmpL a b=0↔a=b
 | [],[]=>by simp [cmpL]
 | _::_,[]=>by simp [cmpL]
 | [],_::_=>by simp [cmpL]
 | x::a,y::b=>by
  unfold cmpL
  by_cases c:cI x y=0
  ·rw [if_pos c,zpd_ a b,(z88_ x y).1 c]; simp
  ·rw [if_neg c]
   have:x≠y:=fun e=>c ((z88_ x y).2 e)
   simp [c,this]
theorem zpe_:∀ a b:List Int,a.length=b.length→(cmpL a b<0↔lexB a b=true)
 | [],[],_=>by simp [cmpL,lexB]
 | _::_,[],h=>by simp at h
 | [],_::_,h=>by simp at h
 | x::a,y::b,h=>by
  unfold cmpL lexB
  by_cases c:cI x y=0
  ·rw [if_pos c,if_pos ((z88_ x y).1 c)]
   exact zpe_ a b (by simpa using h)
  ·rw [if_neg c,if_neg (fun e=>c ((z88_ x y).2 e)),zpc_,decide_eq_true_eq]
theorem zpf_ (a b:List Int):z4r_ a b=0↔a=b:=by
 unfold z4r_
 by_cases c:cI (a.length:Int) (b.length:Int)=0
 ·rw [if_pos c]; exact zpd_ a b
 ·rw [if_neg c]
  exact ⟨fun h=>absurd h c,fun h=>by rw [h] at c; exact absurd ((z88_ _ _).2 rfl) c⟩
theorem zpg_ (a b:List Int):decide (z4r_ a b<0)=befS a b:=by
 rw [Bool.eq_iff_iff,decide_eq_true_eq]
 unfold z4r_ befS
 simp only [Bool.or_eq_true,Bool.and_eq_true,decide_eq_true_eq]
 by_cases c:cI (a.length:Int) (b.length:Int)=0
 ·have e:=(z88_ _ _).1 c
  rw [if_pos c,zpe_ a b (by omega)]
  constructor
  ·intro h; exact .inr ⟨by omega,h⟩
  ·rintro (h | h)
   ·omega
   ·exact h.2
 ·have e:¬ (a.length:Int)=(b.length:Int):=fun e=>c ((z88_ _ _).2 e)
  rw [if_neg c,zpc_]
  constructor
  ·intro h; left; omega
  ·rintro (h | h)
   ·omega
   ·omega
theorem zvf_ (a b:List Int):decide (0≤z4r_ a b)=!befS a b:=by
 rw [← zpg_]
 by_cases h:z4r_ a b<0
 ·rw [decide_eq_true h,decide_eq_false (by omega)]; rfl
 ·rw [decide_eq_false h,decide_eq_true (by omega)]; rfl
theorem zvg_ {k:Nat} (hk:KK≤k) {a b:List Int} (ha:a.length≤1000000000) (hb:b.length≤1000000000):zh7_ k a b=some (cmpL a b):=by
 have hK:=zk_
 unfold zh7_
 have key:∀ (d n i:Nat),a.length-i=d→d<n→zas_ k n a b a (a.length:Int) (i:Int) (fun s_4 s_5=>(if (decide ((List.length s_4:Int)<(List.length s_5:Int)))=true then some (-1) else some 0))=(if i≤a.length then some (if a.length≤i then (if i<b.length then -1 else 0) else cmpL (a.drop i) (b.drop i)) else some (if a.length<b.length then -1 else 0)):=by
  intro d
  induction d with
  | zero =>
   intro n i hd hn
   obtain ⟨n,rfl⟩:∃ m,n=m+1:=⟨n-1,by omega⟩
   have:¬ (i:Int)<(a.length:Int):=by omega
   simp only [zas_,this,decide_false,Bool.false_eq_true,if_false]
   by_cases h1:i≤a.length
   ·have:i=a.length:=by omega
    subst this
    rw [if_pos (Nat.le_refl _),if_pos (Nat.le_refl _)]
    by_cases h2:a.length<b.length
    ·rw [decide_eq_true (by omega),if_pos rfl,if_pos h2]
    ·rw [decide_eq_false (by omega),if_neg (by simp),if_neg h2]
   ·rw [if_neg h1]
    by_cases h2:a.length<b.length
    ·rw [decide_eq_true (by omega),if_pos rfl,if_pos h2]
    ·rw [decide_eq_false (by omega),if_neg (by simp),if_neg h2]
  | succ d ih =>
   intro n i hd hn
   obtain ⟨n,rfl⟩:∃ m,n=m+1:=⟨n-1,by omega⟩
   have hi:i<a.length:=by omega
   have hlt:(i:Int)<(a.length:Int):=by omega
   have hw:=zj_ (i:=i) (by omega)
   have da:a.drop i=a[i]::a.drop (i+1):=List.drop_eq_getElem_cons hi
   rw [if_pos (by omega),if_neg (by omega),da]
   simp only [zas_,hlt,decide_true,if_true,Int.natCast_nonneg,Int.toNat_natCast,List.getElem?_eq_getElem hi,Option.bind_some,hw]
   by_cases hb2:i<b.length
   ·have db:b.drop i=b[i]::b.drop (i+1):=List.drop_eq_getElem_cons hb2
    rw [db,decide_eq_false (by omega),if_neg (by simp),List.getElem?_eq_getElem hb2]
    simp only [Option.bind_some,zkw_]
    unfold cmpL
    by_cases c:cI a[i] b[i]=0
    ·rw [decide_eq_true c,if_neg (by simp),if_pos c,ih n (i+1) (by omega) (by omega),if_pos (by omega)]
     by_cases h3:a.length≤i+1
     ·rw [if_pos h3,List.drop_of_length_le (l:=a) (by omega)]
      by_cases h4:i+1<b.length
      ·rw [if_pos h4,List.drop_eq_getElem_cons h4]; rfl
      ·rw [if_neg h4,List.drop_of_length_le (l:=b) (by omega)]; rfl
     ·rw [if_neg h3]
    ·rw [decide_eq_false c,if_pos (by simp),if_neg c]
   ·rw [List.drop_of_length_le (l:=b) (by omega),decide_eq_true (by omega),if_pos rfl]
    rfl
 have h0:=key a.length k 0 (by omega) (by omega)
 have hz:((0:Nat):Int)=0:=rfl
 rw [hz] at h0
 rw [h0,if_pos (Nat.zero_le _),List.drop_zero,List.drop_zero]
 by_cases c:a.length≤0
 ·have:a=[]:=List.length_eq_zero_iff.1 (by omega)
  subst this
  rw [if_pos c]
  cases b with
  | nil=>rfl
  | cons y b=>rw [if_pos (by simp)]; rfl
 ·rw [if_neg c]
theorem zhe_ {k:Nat} (hk:KK≤k) {a b:List Int} (ha:a.length≤1000000000) (hb:b.length≤1000000000):z84_ k a b=some (z4r_ a b):=by
 unfold z84_ z4r_
 rw [zvd_,zvg_ hk ha hb]
 simp only [Option.bind_some,zkx_ hk]
theorem zvh_ {k:Nat} (hk:KK≤k) {a b:List Int} (ha:a.length≤1000000000):zgg_ k a b=some (befS a b):=by
 have hK:=zk_
 unfold zgg_ befS
 by_cases hl:a.length=b.length
 ·rw [decide_eq_true (show (a.length:Int)=(b.length:Int) by omega),if_neg (by simp),decide_eq_false (by omega),decide_eq_true hl,Bool.false_or,Bool.true_and]
  have key:∀ (d n i:Nat),a.length-i=d→d<n→za7_ k n a b (i:Int) (some false)=some (lexB (a.drop i) (b.drop i)):=by
   intro d
   induction d with
   | zero =>
    intro n i hd hn
    obtain ⟨n,rfl⟩:∃ m,n=m+1:=⟨n-1,by omega⟩
    have:¬ (i:Int)<(a.length:Int):=by omega
    simp only [za7_,this,decide_false,Bool.false_eq_true,if_false]
    rw [List.drop_of_length_le (l:=a) (by omega)]; rfl
   | succ d ih =>
    intro n i hd hn
    obtain ⟨n,rfl⟩:∃ m,n=m+1:=⟨n-1,by omega⟩
    have hi:i<a.length:=by omega
    have hib:i<b.length:=by omega
    have hlt:(i:Int)<(a.length:Int):=by omega
    have hw:=zj_ (i:=i) (by omega)
    have da:a.drop i=a[i]::a.drop (i+1):=List.drop_eq_getElem_cons hi
    have db:b.drop i=b[i]::b.drop (i+1):=List.drop_eq_getElem_cons hib
    rw [da,db]
    unfold lexB
    simp only [za7_,hlt,decide_true,if_true,Int.natCast_nonneg,Int.toNat_natCast,List.getElem?_eq_getElem hi,List.getElem?_eq_getElem hib,Option.bind_some,hw]
    by_cases c:a[i]=b[i]
    ·rw [decide_eq_true c,if_neg (by simp),if_pos c]
     exact ih n (i+1) (by omega) (by omega)
    ·rw [decide_eq_false c,if_pos (by simp),if_neg c]
  exact key a.length k 0 (by omega) (by omega)
 ·rw [decide_eq_false (show ¬ (a.length:Int)=(b.length:Int) by omega),if_pos (by simp),decide_eq_false hl,Bool.false_and,Bool.or_false]
  exact congrArg some (decide_eq_decide.2 (by omega))
theorem zvi_ {i j:Nat} (h:i+j<4611686018427387904):z0_ (Int.fdiv (z7e_ (z0_ ((i:Int)+(j:Int)))) (2 ^ 1))=(((i+j) / 2:Nat):Int):=by
 rw [w_id (x:=(i:Int)+j) (by omega) (by omega)]
 have hu:z7e_ ((i:Int)+(j:Int))=(i:Int)+j:=by unfold z7e_ IntKind.wrap; simp [IntKind.bits,IntKind.signed]; omega
 rw [hu,Int.fdiv_eq_ediv_of_nonneg _ (by omega),w_id (by omega) (by omega)]
 omega
abbrev Cx:=List (List Int)
def z1m_ (s:List Int) (k:Nat):List Int:=s.take k++s.drop (k+1)
theorem zhf_ {s:List Int} {k:Nat} (h:k<s.length):(z1m_ s k).length=s.length-1:=by
 unfold z1m_; rw [List.length_append,List.length_take,List.length_drop]; omega
structure CxP (c:Cx):Prop where
 len:c.length≤48
 simp:∀ s∈c,SimpP s
 ord:c.Pairwise (fun a b=>befS a b=true)
 face:∀ s∈c,1<s.length→∀ k,k<s.length→z1m_ s k∈c
open Classical in
noncomputable def cxB (c:Cx):Bool:=decide (CxP c)
theorem z6r_ {c:Cx}:cxB c=true↔CxP c:=by unfold cxB; simp
def z2o_ (c:Cx):Prop:=c.length≤1048576∧∀ s∈c,s.length≤1048576
theorem zph_ {s:List Int} (hs:s.length≤1048576) {k:Nat} (h:k<s.length):z7q_ s (k:Int)=some (z1m_ s k):=by
 have hL:=z1i_
 have hw:=zj_ (i:=k) (by omega)
 have b1:(k:Int)≤(s.length:Int):=by omega
 have b2:((k+1:Nat):Int)≤(s.length:Int):=by omega
 unfold z7q_ zgh_
 have hdr:(s.drop (k+1)).take (s.length-(k+1))=s.drop (k+1):=List.take_of_length_le (by rw [List.length_drop]; exact Nat.le_refl _)
 simp only [Int.natCast_nonneg,Int.le_refl,b1,and_self,if_true,Int.toNat_natCast]
 rw [if_pos (by simp only [List.length_nil,List.length_take]; omega)]
 simp only [Option.bind_some,hw,Int.natCast_nonneg,Int.toNat_natCast,b2,Int.le_refl,and_self,if_true,hdr]
 rw [if_pos (by simp only [List.length_take,List.length_drop]; omega)]
 rfl
def posC (c:Cx) (s:List Int):Nat:=c.findIdx (fun y=>decide (y=s))
theorem z5j_ {c:Cx} {s:List Int}:posC c s<c.length↔s∈c:=by
 unfold posC
 rw [List.findIdx_lt_length]
 constructor
 ·rintro ⟨x,hx,h⟩; rw [← of_decide_eq_true h]; exact hx
 ·intro h; exact ⟨s,h,decide_eq_true rfl⟩
theorem zky_ {c:Cx} {s:List Int} (h:s∈c):c[posC c s]?=some s:=by
 have hl:=z5j_.2 h
 rw [List.getElem?_eq_getElem hl]
 have:decide (c[posC c s]=s)=true:=List.findIdx_getElem (xs:=c) (p:=fun y=>decide (y=s)) (w:=hl)
 rw [of_decide_eq_true this]
theorem zvj_ {k:Nat} (hk:KK≤k) {a b:List Int} (ha:a.length≤1000000000):zgi_ k a b=some (decide (a=b)):=by
 have hK:=zk_
 unfold zgi_
 by_cases hl:a.length=b.length
 ·rw [decide_eq_true (show (a.length:Int)=(b.length:Int) by omega),if_neg (by simp)]
  refine z7g_ (L:=fun n i=>za8_ k n a b i (some true)) a b hl ?_ ?_ (n:=k) (by omega)
  ·intro n i x y hx hy hlt
   have hw:=zj_ (i:=i) (by omega)
   by_cases e:x=y <;> simp [za8_,hlt,hx,hy,hw,e]
  ·intro n
   simp [za8_]
 ·have h2:a≠b:=fun e=>hl (by rw [e])
  rw [decide_eq_false (show ¬ (a.length:Int)=(b.length:Int) by omega),if_pos (by simp),decide_eq_false h2]
theorem zpi_ {k:Nat} (hk:KK≤k) {c:Cx} (hc:z2o_ c) (s:List Int):zce_ k c s=some (if posC c s<c.length then ((posC c s:Nat):Int) else -1):=by
 have hK:=zk_
 obtain ⟨h1,h2⟩:=hc
 unfold zce_
 rw [z7h_ (L:=fun m i=>za9_ k m c s i (some (-1))) (p:=fun y=>decide (y=s)) c ?_ ?_ (n:=k) (by omega)]
 ·unfold idxP posC
  cases hf:c.findIdx? (fun y=>decide (y=s)) with
  | some i =>
   obtain ⟨hlt,hp⟩:=List.findIdx?_eq_some_iff_findIdx_eq.1 hf
   rw [hp,if_pos hlt]
  | none =>
   rw [List.findIdx?_eq_none_iff] at hf
   have:¬ c.findIdx (fun y=>decide (y=s))<c.length:=fun h=>by
    obtain ⟨x,hx,h2⟩:=List.findIdx_lt_length.1 h
    rw [hf x hx] at h2; cases h2
   rw [if_neg this]
 ·intro m i x hi hlt
  have hw:=zj_ (i:=i) (by omega)
  have hxl:=h2 x (List.mem_of_getElem? hi)
  simp only [za9_,hlt,decide_true,if_true,Int.natCast_nonneg,Int.toNat_natCast,hi,Option.bind_some,hw,zvj_ hk (show x.length≤1000000000 by omega)]
 ·intro m
  simp [za9_]
theorem zpj_ (c:Cx) (s:List Int):decide ((if posC c s<c.length then ((posC c s:Nat):Int) else -1)<0)=!decide (s∈c):=by
 by_cases h:s∈c
 ·rw [if_pos (z5j_.2 h),decide_eq_false (by omega),decide_eq_true h]; rfl
 ·rw [if_neg (fun h2=>h (z5j_.1 h2)),decide_eq_false h]; rfl
theorem zvk_ {k:Nat} (hk:KK≤k) {a b:List Int} (ha:a.length≤1048576) (hb:b.length≤1048576):zha_ k [a,b]=some (a++b):=by
 have hK:=zk_
 have hL:=z1i_
 obtain ⟨n,rfl⟩:∃ n,k=n+3:=⟨k-3,by omega⟩
 have w1:z0_ (0+(a.length:Int))=(a.length:Int):=by rw [w_id (by omega) (by omega)]; omega
 have w2:z0_ ((a.length:Int)+(b.length:Int))=((a.length+b.length:Nat):Int):=by rw [w_id (by omega) (by omega)]; omega
 have w3:z0_ ((0:Int)+1)=1:=w_id (by omega) (by omega)
 have w4:z0_ ((1:Int)+1)=2:=w_id (by omega) (by omega)
 have n1:¬ ((a.length:Int)<0):=by omega
 have n2:¬ (((a.length+b.length:Nat):Int)<0):=by omega
 have l1:(((a.length+b.length:Nat):Int).toNat)*8≤LIM:=by simp only [Int.toNat_natCast]; omega
 have l2:a.length*8≤LIM:=by omega
 have l3:(a.length+b.length)*8≤LIM:=by omega
 unfold zha_
 simp only [zh8_,List.length_cons,List.length_nil,Nat.zero_add,Nat.reduceAdd,show ((2:Nat):Int)=2 from rfl,w1,w2,w3,w4]
 simp only [zp8_,zh9_,w1,w2,w3,w4,n1,n2,true_and,l1,l2,l3,Int.natCast_nonneg,List.nil_append,decide_false,Bool.false_eq_true,if_false,if_true,Option.bind_some,and_self,List.getElem?_cons_zero,List.getElem?_cons_succ,show decide ((0:Int)<2)=true from rfl,show decide ((1:Int)<2)=true from rfl,show decide ((2:Int)<2)=false from rfl,show (0:Int).toNat=0 from rfl,show (1:Int).toNat=1 from rfl,show (0:Int)≤0 from Int.le_refl _,show (0:Int)≤1 by omega,List.length_cons,List.length_nil,Nat.zero_add,Nat.reduceAdd,show ((2:Nat):Int)=2 from rfl]
def z1e_ (s:List Int):Cx:=if 1<s.length then (List.range s.length).map (z1m_ s) else []
theorem zpk_ {k:Nat} (hk:KK≤k) {s:List Int} (hs:s.length≤1048576):z9d_ k s=some (z1e_ s):=by
 have hK:=zk_
 have hL:=z1i_
 unfold z9d_
 have:=z1z_ (α:=Nat) (A:=Cx) (L:=fun n i q=>z85_ k n s (s.length:Int) i q (fun q_3=>some q_3)) (I:=fun pre q=>q=(if 1<s.length then (List.range pre.length).map (z1m_ s) else [])) (G:=fun _ _=>some (z1e_ s)) (List.range s.length) ?_ ?_ k (by simp; omega) [] (by simp)
 ·exact this
 ·intro n pre x post q hx hq ih hg hlt
  rw [List.length_range] at hlt
  have hpl:pre.length<s.length:=by omega
  have hw:=zj_ (i:=pre.length) (by omega)
  simp only [z85_,hlt,decide_true,if_true]
  by_cases c:1<s.length
  ·rw [if_pos c] at hq
   have b1:(pre.length:Int)≤(s.length:Int):=by omega
   have b2:((pre.length+1:Nat):Int)≤(s.length:Int):=by omega
   have hdr:(s.drop (pre.length+1)).take (s.length-(pre.length+1))=s.drop (pre.length+1):=List.take_of_length_le (by rw [List.length_drop]; exact Nat.le_refl _)
   have hcc:=zvk_ hk (a:=s.take pre.length) (b:=s.drop (pre.length+1)) (by rw [List.length_take]; omega) (by rw [List.length_drop]; omega)
   have hlim:(q.length+1)*24≤LIM:=by rw [hq,List.length_map,List.length_range]; omega
   rw [decide_eq_true (by omega),if_pos rfl]
   simp only [Int.natCast_nonneg,Int.le_refl,Int.toNat_natCast,b1,hw,b2,and_self,if_true,hdr,hcc,Option.bind_some,List.length_singleton,hlim]
   refine ih _ ?_
   rw [if_pos c,hq,List.length_append,List.length_singleton,List.range_succ,List.map_append]
   rfl
  ·rw [decide_eq_false (by omega),if_neg (by simp),hw]
   exact ih _ (by rw [if_neg c] at hq ⊢; exact hq)
 ·intro n q hq
  rw [List.length_range] at hq ⊢
  simp only [z85_,Int.lt_irrefl,decide_false,Bool.false_eq_true,if_false,hq]
  rfl
theorem zcp_ {s f:List Int}:f∈z1e_ s↔1<s.length∧∃ k,k<s.length∧f=z1m_ s k:=by
 unfold z1e_
 by_cases c:1<s.length
 ·rw [if_pos c,List.mem_map]
  constructor
  ·rintro ⟨k,hk,rfl⟩; exact ⟨c,k,List.mem_range.1 hk,rfl⟩
  ·rintro ⟨_,k,hk,rfl⟩; exact ⟨k,List.mem_range.2 hk,rfl⟩
 ·rw [if_neg c]; simp [c]
def lowC (c:Cx) (s:List Int):Nat:=c.findIdx (fun y=>!befS y s)
theorem zvl_ (c:Cx) (s:List Int):lowC c s≤c.length:=List.findIdx_le_length
theorem zpl_ {c:Cx} {s:List Int} {i:Nat} (h:i<lowC c s) (hi:i<c.length):befS c[i] s=true:=by
 have:=List.not_of_lt_findIdx h
 simpa using this
theorem zpm_ {c:Cx} {s:List Int} (hs:c.Pairwise (fun a b=>befS a b=true)) {i:Nat} (h:lowC c s≤i) (hi:i<c.length):befS c[i] s=false:=by
 have hp:lowC c s<c.length:=by omega
 have h0:befS c[lowC c s] s=false:=by
  have:=List.findIdx_getElem (xs:=c) (p:=fun y=>!befS y s) (w:=hp)
  simp only [Bool.not_eq_true'] at this
  exact this
 by_cases e:i=lowC c s
 ·subst e; exact h0
 ·cases hb:befS c[i] s
  ·rfl
  ·have h1:=List.pairwise_iff_getElem.1 hs (lowC c s) i hp hi (by omega)
   rw [zco_ h1 hb] at h0; cases h0
theorem zvm_ {c:Cx} (hs:c.Pairwise (fun a b=>befS a b=true)) {s:List Int} (h:s∈c):lowC c s=posC c s:=by
 have hl:=z5j_.2 h
 have hg:=zky_ h
 rw [List.getElem?_eq_getElem hl] at hg
 have hg:=Option.some.inj hg
 have h1:¬ posC c s<lowC c s:=fun q=>by have:=zpl_ q hl; rw [hg,zhd_] at this; cases this
 have h2:¬ lowC c s<posC c s:=fun q=>by
  have h3:=List.pairwise_iff_getElem.1 hs (lowC c s) (posC c s) (by omega) hl q
  rw [hg] at h3
  rw [zpm_ hs (Nat.le_refl _) (by omega)] at h3; cases h3
 omega
theorem zvn_ {k:Nat} (hk:KK≤k) {c:Cx} (hc:z2o_ c) (hs:c.Pairwise (fun a b=>befS a b=true)) {s:List Int} (hsl:s.length≤1048576) {e:Cx→List Int→Unit→Int→Int→Option (Int×Bool)} :
  ∀ (d:Nat) (i j n:Nat),j-i≤d→d<n→i≤lowC c s→lowC c s≤j→j≤c.length→z6o_ k n c s () (c.length:Int) (i:Int) (j:Int) e=e c s () (c.length:Int) ((lowC c s:Nat):Int):=by
 obtain ⟨hcl,hce⟩:=hc
 intro d
 induction d with
 | zero =>
  intro i j n h1 h2 h3 h4 h5
  obtain ⟨n,rfl⟩:∃ m,n=m+1:=⟨n-1,by omega⟩
  have hlt:¬ (i:Int)<(j:Int):=by omega
  simp only [z6o_,hlt,decide_false,Bool.false_eq_true,if_false]
  rw [show i=lowC c s by omega]
 | succ d ih =>
  intro i j n h1 h2 h3 h4 h5
  obtain ⟨n,rfl⟩:∃ m,n=m+1:=⟨n-1,by omega⟩
  by_cases hij:i<j
  ·have hlt:(i:Int)<(j:Int):=by omega
   have hm:(i+j) / 2<c.length:=by omega
   have hw:=zj_ (i:=(i+j) / 2) (by omega)
   have hml:=hce c[(i+j) / 2] (List.getElem_mem hm)
   simp only [z6o_,hlt,decide_true,if_true,zvi_ (show i+j<4611686018427387904 by omega),Int.natCast_nonneg,Int.toNat_natCast,List.getElem?_eq_getElem hm,Option.bind_some,zhe_ hk (show (c[(i+j) / 2]).length≤1000000000 by omega) (show s.length≤1000000000 by omega),zpg_,hw]
   by_cases hb:befS c[(i+j) / 2] s=true
   ·rw [if_pos hb]
    refine ih _ _ _ (by omega) (by omega) ?_ h4 h5
    by_cases hq:lowC c s≤(i+j) / 2
    ·rw [zpm_ hs hq hm] at hb; cases hb
    ·omega
   ·rw [if_neg hb]
    refine ih _ _ _ (by omega) (by omega) h3 ?_ (by omega)
    by_cases hq:(i+j) / 2<lowC c s
    ·exact absurd (zpl_ hq hm) hb
    ·omega
  ·have hlt:¬ (i:Int)<(j:Int):=by omega
   simp only [z6o_,hlt,decide_false,Bool.false_eq_true,if_false]
   rw [show i=lowC c s by omega]
theorem zpn_ {k:Nat} (hk:KK≤k) {c:Cx} (hc:z2o_ c) (hs:c.Pairwise (fun a b=>befS a b=true)) {s:List Int} (hsl:s.length≤1048576):zc4_ k c s=some (if posC c s<c.length then ((posC c s:Nat):Int) else -1):=by
 have hK:=zk_
 have hcl:=hc.1
 have:=zvl_ c s
 unfold zc4_ zkp_
 have h0:=zvn_ hk hc hs hsl (e:=fun x_3 target_4 cmp_5 n_6 i_7=>(if (decide (i_7<n_6))=true then (if 0≤i_7 then (x_3[i_7.toNat]?).bind fun y_8=>(z84_ k y_8 target_4).bind fun r_9=>some (i_7,(decide (r_9=0))) else none) else some (i_7,false))) c.length 0 c.length k (by omega) (by omega) (by omega) (by omega) (by omega)
 rw [show ((0:Nat):Int)=0 from rfl] at h0
 rw [h0]
 by_cases h:s∈c
 ·have hp:=zvm_ hs h
  have hl:=z5j_.2 h
  have hg:=zky_ h
  rw [hp,if_pos hl,decide_eq_true (by omega),if_pos rfl]
  simp only [Int.natCast_nonneg,if_true,Int.toNat_natCast,hg,Option.bind_some,zhe_ hk (show s.length≤1000000000 by omega) (show s.length≤1000000000 by omega)]
  have:z4r_ s s=0:=(zpf_ s s).2 rfl
  rw [this]; rfl
 ·rw [if_neg (fun q=>h (z5j_.1 q))]
  by_cases hl:lowC c s<c.length
  ·have hxl:=hc.2 c[lowC c s] (List.getElem_mem hl)
   rw [decide_eq_true (by omega),if_pos rfl]
   simp only [Int.natCast_nonneg,if_true,Int.toNat_natCast,List.getElem?_eq_getElem hl,Option.bind_some,zhe_ hk (show (c[lowC c s]).length≤1000000000 by omega) (show s.length≤1000000000 by omega)]
   have:¬ z4r_ c[lowC c s] s=0:=fun e=>h (by rw [← (zpf_ _ _).1 e]; exact List.getElem_mem hl)
   rw [decide_eq_false this]; rfl
  ·rw [decide_eq_false (by omega),if_neg (by simp)]; rfl
open Classical in
noncomputable def cxAt (c d:Cx) (i:Nat):Bool:=decide (∀ s,c[i]?=some s→SimpP s∧z48_ (fun a b=>befS a b=true) c i s∧(1<s.length→∀ k,k<s.length→z1m_ s k∈d))
open Classical in
theorem z2f_ {c d:Cx} {i:Nat} {s:List Int} (h:c[i]?=some s):cxAt c d i=true↔SimpP s∧z48_ (fun a b=>befS a b=true) c i s∧(1<s.length→∀ k,k<s.length→z1m_ s k∈d):=by
 unfold cxAt
 rw [decide_eq_true_eq]
 exact ⟨fun q=>q s h,fun q t ht=>by rw [h] at ht; cases ht; exact q⟩
open Classical in
theorem zvo_ {k:Nat} (hk:KK≤k) {c:Cx} (hc:z2o_ c):zgj_ k c=some (cxB c):=by
 have hK:=zk_
 obtain ⟨hcl,hce⟩:=hc
 unfold zgj_
 by_cases h48:c.length≤48
 ·rw [decide_eq_false (by omega),if_neg (by simp)]
  have:=z3l_ (L:=fun n i=>z45_ k n c i (some true)) (b:=c.length) (p:=fun i=>cxAt c c i) (r:=some false) (e:=some true) ?_ ?_ (n:=k) (by omega)
  ·rw [this]
   have e:(List.range c.length).all (fun i=>cxAt c c i)=true↔CxP c:=by
    rw [List.all_eq_true]
    constructor
    ·intro h
     have h':∀ i s,c[i]?=some s→SimpP s∧z48_ (fun a b=>befS a b=true) c i s∧(1<s.length→∀ k,k<s.length→z1m_ s k∈c):=fun i s hs=>(z2f_ hs).1 (h i (List.mem_range.2 (List.getElem?_eq_some_iff.1 hs).1))
     refine ⟨h48,fun s hs=>?_,?_,fun s hs=>?_⟩
     ·obtain ⟨i,hi⟩:=List.getElem?_of_mem hs
      exact (h' i s hi).1
     ·have:=zhc_ (R:=fun a b=>befS a b=true) (fun a b c=>zco_) (l:=c) (m:=c.length) (fun j hj x hx=>(h' j x hx).2.1)
      rwa [List.take_length] at this
     ·obtain ⟨i,hi⟩:=List.getElem?_of_mem hs
      exact (h' i s hi).2.2
    ·intro h i hi
     rw [List.mem_range] at hi
     exact (z2f_ (List.getElem?_eq_getElem hi)).2 ⟨h.simp _ (List.getElem_mem hi),zkv_ h.ord (List.getElem?_eq_getElem hi),h.face _ (List.getElem_mem hi)⟩
   by_cases q:CxP c
   ·rw [if_pos (e.2 q),z6r_.2 q]
   ·rw [if_neg (fun h=>q (e.1 h))]
    congr 1
    symm
    rw [Bool.eq_false_iff,ne_eq,z6r_]; exact q
  ·intro n i hi
   have hlt:(i:Int)<(c.length:Int):=by omega
   have hw:=zj_ (i:=i) (by omega)
   have hg:c[i]?=some c[i]:=List.getElem?_eq_getElem hi
   have hsl:=hce c[i] (List.getElem_mem hi)
   have hin:z5d_ k k c (i:Int) c[i] 0 (fun c_5 i_6=>z45_ k n c_5 (z0_ (i_6+1)) (some true))=if (∀ k,1<(c[i]).length→k<(c[i]).length→z1m_ c[i] k∈c) then z45_ k n c ((i+1:Nat):Int) (some true) else some false:=by
    by_cases h1:1<(c[i]).length
    ·have:=z3l_ (L:=fun m j=>z5d_ k m c (i:Int) c[i] j (fun c_5 i_6=>z45_ k n c_5 (z0_ (i_6+1)) (some true))) (b:=(c[i]).length) (p:=fun j=>decide (z1m_ c[i] j∈c)) (r:=some false) (e:=z45_ k n c ((i+1:Nat):Int) (some true)) ?_ ?_ (n:=k) (by omega)
     ·rw [this]
      simp only [List.all_eq_true,List.mem_range,decide_eq_true_eq]
      by_cases q:∀ j,j<(c[i]).length→z1m_ c[i] j∈c
      ·rw [if_pos q,if_pos (fun j _ hj=>q j hj)]
      ·rw [if_neg q,if_neg (fun h=>q fun j hj=>h j h1 hj)]
     ·intro m j hj
      have hjlt:(j:Int)<((c[i]).length:Int):=by omega
      have hw2:=zj_ (i:=j) (by omega)
      simp only [z5d_,hjlt,decide_true,if_true,decide_eq_true (show (1:Int)<((c[i]).length:Int) by omega),zph_ hsl hj,Option.bind_some,zpi_ hk ⟨hcl,hce⟩,zpj_,hw2]
      by_cases q:z1m_ c[i] j∈c
      ·rw [decide_eq_true q]; simp
      ·rw [decide_eq_false q]; simp
     ·intro m
      simp only [z5d_,Int.lt_irrefl,decide_false,Bool.false_eq_true,if_false,hw]
    ·rw [if_pos (fun j h=>absurd h h1)]
     obtain ⟨m,hm⟩:∃ m,k=m+1:=⟨k-1,by omega⟩
     have hn1:¬ (1:Int)<((c[i]).length:Int):=by omega
     conv=>lhs; arg 2; rw [hm]
     simp only [z5d_,hn1,decide_false,Bool.false_eq_true,if_false,hw]
     split <;> rfl
   simp only [z45_,hlt,decide_true,if_true,Int.natCast_nonneg,Int.toNat_natCast,hg,Option.bind_some,zv9_ hk (show (c[i]).length≤1000000000 by omega)]
   cases hsb:z6p_ c[i] with
   | false =>
    have:¬ cxAt c c i=true:=fun h=>by
     have:=z6q_.2 ((z2f_ hg).1 h).1
     rw [hsb] at this; cases this
    rw [if_neg this]; simp
   | true =>
    have hsp:=z6q_.1 hsb
    simp only [Bool.not_true,Bool.false_eq_true,if_false]
    by_cases h0:0<i
    ·have h0':(0:Int)<(i:Int):=by omega
     have hw1:z0_ ((i:Int)-1)=((i-1:Nat):Int):=by rw [w_id (by omega) (by omega)]; omega
     have hg1:c[i-1]?=some c[i-1]:=List.getElem?_eq_getElem (by omega)
     have hpl:=hce c[i-1] (List.getElem_mem (by omega))
     simp only [h0',decide_true,if_true,hw1,Int.natCast_nonneg,Int.toNat_natCast,hg1,Option.bind_some,zvh_ hk (show (c[i-1]).length≤1000000000 by omega)]
     cases hbf:befS c[i-1] c[i] with
     | false =>
      have:¬ cxAt c c i=true:=fun h=>by
       have:befS c[i-1] c[i]=true:=((z2f_ hg).1 h).2.1 h0 _ hg1
       rw [hbf] at this; cases this
      rw [if_neg this]; simp
     | true =>
      simp only [Bool.not_true,Bool.false_eq_true,if_false,hin]
      by_cases q:∀ k,1<(c[i]).length→k<(c[i]).length→z1m_ c[i] k∈c
      ·rw [if_pos q,if_pos ((z2f_ hg).2 ⟨hsp,fun _ t ht=>by rw [hg1] at ht; cases ht; exact hbf,fun a b=>q b a⟩)]
      ·rw [if_neg q,if_neg (fun h=>q fun b a=>((z2f_ hg).1 h).2.2 a b)]
    ·have h0':¬ (0:Int)<(i:Int):=by omega
     simp only [h0',decide_false,Bool.false_eq_true,if_false,hin]
     by_cases q:∀ k,1<(c[i]).length→k<(c[i]).length→z1m_ c[i] k∈c
     ·rw [if_pos q,if_pos ((z2f_ hg).2 ⟨hsp,fun h=>absurd h h0,fun a b=>q b a⟩)]
     ·rw [if_neg q,if_neg (fun h=>q fun b a=>((z2f_ hg).1 h).2.2 a b)]
  ·intro n
   simp only [z45_,Int.lt_irrefl,decide_false,Bool.false_eq_true,if_false]
 ·rw [decide_eq_true (by omega),if_pos rfl]
  congr 1
  symm
  rw [Bool.eq_false_iff,ne_eq,z6r_]
  exact fun h=>h48 h.len
theorem zvp_ {c:Cx} (hc:z2o_ c) (i:Nat):z2o_ (c.take i):=⟨by rw [List.length_take]; have:=hc.1; omega,fun s hs=>hc.2 s (List.mem_of_mem_take hs)⟩
theorem zvq_ {k:Nat} (hk:KK≤k) {c:Cx} (hc:z2o_ c) {i:Nat} (hi:i≤c.length) (hs:(c.take i).Pairwise (fun a b=>befS a b=true)) {s:List Int} (hsl:s.length≤1048576):zcn_ k (z1e_ s) (c,(i:Int))=some ((z1e_ s).any fun f=>!decide (f∈c.take i)):=by
 have hK:=zk_
 have hcl:=hc.1
 have hfl:(z1e_ s).length≤1048576:=by
  unfold z1e_
  split
  ·rw [List.length_map,List.length_range]; exact hsl
  ·simp
 unfold zcn_ zkr_
 rw [z7h_ (L:=fun n j=>zat_ k n (z1e_ s) (c,(i:Int)) ((z1e_ s).length:Int) j (some (-1))) (p:=fun f=>!decide (f∈c.take i)) (z1e_ s) ?_ ?_ (n:=k) (by omega)]
 ·rw [Option.bind_some,zax_]
 ·intro n j f hj hlt
  have hw:=zj_ (i:=j) (by omega)
  have hf:f.length≤1048576:=by
   obtain ⟨_,q,hq,rfl⟩:=zcp_.1 (List.mem_of_getElem? hj)
   rw [zhf_ hq]; omega
  have b1:(i:Int)≤(c.length:Int):=by omega
  simp only [zat_,zkq_,hlt,decide_true,if_true,Int.natCast_nonneg,Int.le_refl,b1,and_self,Int.toNat_natCast,hj,Option.bind_some,zpn_ hk (zvp_ hc i) hs hf,zpj_,hw]
 ·intro n
  simp [zat_]
theorem zhg_ {s:List Int} {d:Cx}:((z1e_ s).any fun f=>!decide (f∈d))=false↔(1<s.length→∀ k,k<s.length→z1m_ s k∈d):=by
 rw [List.any_eq_false]
 constructor
 ·intro h h1 k hk
  have:=h _ (zcp_.2 ⟨h1,k,hk,rfl⟩)
  simpa using this
 ·intro h f hf
  obtain ⟨h1,k,hk,rfl⟩:=zcp_.1 hf
  simpa using h h1 k hk
theorem zvr_ {k:Nat} (hk:KK≤k) {c:Cx} (hc:z2o_ c):zf9_ k c=some (cxB c):=by
 have hK:=zk_
 obtain ⟨hcl,hce⟩:=hc
 unfold zf9_
 have:=zv7_ (L:=fun n i=>z86_ k n c (c.length:Int) i c (fun v_9=>some (decide ((List.length v_9:Int)≤48)))) (b:=c.length) (p:=fun i=>cxAt c (c.take i) i) (r:=some false) (e:=some (decide (c.length≤48))) ?_ ?_ (n:=k) (by omega)
 ·rw [this]
  have e:((List.range c.length).all (fun i=>cxAt c (c.take i) i)=true∧c.length≤48)↔CxP c:=by
   rw [List.all_eq_true]
   constructor
   ·rintro ⟨h,h48⟩
    have h':∀ i s,c[i]?=some s→SimpP s∧z48_ (fun a b=>befS a b=true) c i s∧(1<s.length→∀ k,k<s.length→z1m_ s k∈c.take i):=fun i s hs=>(z2f_ hs).1 (h i (List.mem_range.2 (List.getElem?_eq_some_iff.1 hs).1))
    refine ⟨h48,fun s hs=>?_,?_,fun s hs h1 k hk=>?_⟩
    ·obtain ⟨i,hi⟩:=List.getElem?_of_mem hs
     exact (h' i s hi).1
    ·have:=zhc_ (R:=fun a b=>befS a b=true) (fun a b c=>zco_) (l:=c) (m:=c.length) (fun j hj x hx=>(h' j x hx).2.1)
     rwa [List.take_length] at this
    ·obtain ⟨i,hi⟩:=List.getElem?_of_mem hs
     exact List.mem_of_mem_take ((h' i s hi).2.2 h1 k hk)
   ·intro h
    refine ⟨fun i hi=>?_,h.len⟩
    rw [List.mem_range] at hi
    have hg:c[i]?=some c[i]:=List.getElem?_eq_getElem hi
    refine (z2f_ hg).2 ⟨h.simp _ (List.getElem_mem hi),zkv_ h.ord hg,fun h1 k hk=>?_⟩
    have hm:=h.face _ (List.getElem_mem hi) h1 k hk
    obtain ⟨j,hj⟩:=List.getElem?_of_mem hm
    obtain ⟨hjl,hje⟩:=List.getElem?_eq_some_iff.1 hj
    have hji:j<i:=by
     by_cases q:j<i
     ·exact q
     ·have hb:befS (z1m_ c[i] k) c[i]=true:=by
       unfold befS
       rw [zhf_ hk,decide_eq_true (by omega)]; rfl
      by_cases q2:j=i
      ·subst q2
       have:=zhd_ c[j]
       rw [← hje,zhd_] at hb; cases hb
      ·have h3:=List.pairwise_iff_getElem.1 h.ord i j hi hjl (by omega)
       rw [hje,zve_ hb] at h3; cases h3
    rw [List.mem_take_iff_getElem]
    exact ⟨j,by omega,hje⟩
  by_cases q:CxP c
  ·obtain ⟨q1,q2⟩:=e.2 q
   rw [if_pos q1,decide_eq_true q2,z6r_.2 q]
  ·have:cxB c=false:=by rw [Bool.eq_false_iff,ne_eq,z6r_]; exact q
   rw [this]
   by_cases q1:(List.range c.length).all (fun i=>cxAt c (c.take i) i)=true
   ·rw [if_pos q1,decide_eq_false (fun q2=>q (e.1 ⟨q1,q2⟩))]
   ·rw [if_neg q1]
 ·intro n i hi hpre
  have hlt:(i:Int)<(c.length:Int):=by omega
  have hw:=zj_ (i:=i) (by omega)
  have hg:c[i]?=some c[i]:=List.getElem?_eq_getElem hi
  have hsl:=hce c[i] (List.getElem_mem hi)
  have hsorted:(c.take i).Pairwise (fun a b=>befS a b=true):=zhc_ (R:=fun a b=>befS a b=true) (fun a b c=>zco_) (fun j hj x hx=>((z2f_ hx).1 (hpre j hj)).2.1)
  simp only [z86_,hlt,decide_true,if_true,Int.natCast_nonneg,Int.toNat_natCast,hg,Option.bind_some,zvc_ hk (show (c[i]).length≤1000000000 by omega),zpk_ hk hsl,zvq_ hk ⟨hcl,hce⟩ (Nat.le_of_lt hi) hsorted hsl,hw]
  cases hsb:z6p_ c[i] with
  | false =>
   have:¬ cxAt c (c.take i) i=true:=fun h=>by
    have:=z6q_.2 ((z2f_ hg).1 h).1
    rw [hsb] at this; cases this
   rw [if_neg this]; simp
  | true =>
   have hsp:=z6q_.1 hsb
   simp only [Bool.not_true,Bool.false_eq_true,if_false]
   by_cases h0:0<i
   ·have h0':(0:Int)<(i:Int):=by omega
    have hw1:z0_ ((i:Int)-1)=((i-1:Nat):Int):=by rw [w_id (by omega) (by omega)]; omega
    have hg1:c[i-1]?=some c[i-1]:=List.getElem?_eq_getElem (by omega)
    have hpl:=hce c[i-1] (List.getElem_mem (by omega))
    simp only [h0',decide_true,if_true,hw1,Int.natCast_nonneg,Int.toNat_natCast,hg1,Option.bind_some,zhe_ hk (show (c[i-1]).length≤1000000000 by omega) (show (c[i]).length≤1000000000 by omega),zvf_]
    cases hbf:befS c[i-1] c[i] with
    | false =>
     have:¬ cxAt c (c.take i) i=true:=fun h=>by
      have:befS c[i-1] c[i]=true:=((z2f_ hg).1 h).2.1 h0 _ hg1
      rw [hbf] at this; cases this
     rw [if_neg this]; simp
    | true =>
     simp only [Bool.not_true,Bool.false_eq_true,if_false]
     cases hq:(z1e_ c[i]).any fun f=>!decide (f∈c.take i) with
     | false =>
      rw [if_neg (by simp),if_pos ((z2f_ hg).2 ⟨hsp,fun _ t ht=>by rw [hg1] at ht; cases ht; exact hbf,zhg_.1 hq⟩)]
     | true =>
      rw [if_pos rfl,if_neg (fun h=>by rw [zhg_.2 ((z2f_ hg).1 h).2.2] at hq; cases hq)]
   ·have h0':¬ (0:Int)<(i:Int):=by omega
    simp only [h0',decide_false,Bool.false_eq_true,if_false]
    cases hq:(z1e_ c[i]).any fun f=>!decide (f∈c.take i) with
    | false =>
     rw [if_neg (by simp),if_pos ((z2f_ hg).2 ⟨hsp,fun h=>absurd h h0,zhg_.1 hq⟩)]
    | true =>
     rw [if_pos rfl,if_neg (fun h=>by rw [zhg_.2 ((z2f_ hg).1 h).2.2] at hq; cases hq)]
 ·intro n
  have e2:decide ((c.length:Int)≤48)=decide (c.length≤48):=decide_eq_decide.2 (by omega)
  simp only [z86_,Int.lt_irrefl,decide_false,Bool.false_eq_true,if_false,e2]
theorem zpo_ {k:Nat} {p:Int} (hp:p≤251):∀ (m d n:Nat),17-d≤m→2≤d→m<n→d≤17→∃ b,z5e_ k n p (d:Int) (some true)=some b∧z5i_ k n p (d:Int) (some true)=some b
 | m,d,0,_,_,h,_=>by omega
 | 0,d,n+1,h,h2,_,h4=>by
  have hd:d=17:=by omega
  subst hd
  have w1:z0_ (((17:Nat):Int)*((17:Nat):Int))=289:=by rw [w_id (by omega) (by omega)]; rfl
  have hc:¬ ((289:Int)≤p):=by omega
  refine ⟨true,?_,?_⟩
  ·unfold z5e_; rw [w1,decide_eq_false hc,if_neg (by simp)]
  ·unfold z5i_; rw [w1,decide_eq_false hc,if_neg (by simp)]
 | m+1,d,n+1,h,h2,hn,h4=>by
  by_cases hc:z0_ ((d:Int)*(d:Int))≤p
  ·have hd0:¬ ((d:Int)=0):=by omega
   have hw:=zj_ (i:=d) (by omega)
   by_cases hm:Int.tmod p (d:Int)=0
   ·refine ⟨false,?_,?_⟩
    ·unfold z5e_; rw [decide_eq_true hc,if_pos rfl,if_neg hd0,decide_eq_true hm,if_pos rfl]
    ·unfold z5i_; rw [decide_eq_true hc,if_pos rfl,if_neg hd0,decide_eq_true hm,if_pos rfl]
   ·by_cases h17:d=17
    ·subst h17
     have w1:z0_ (((17:Nat):Int)*((17:Nat):Int))=289:=by rw [w_id (by omega) (by omega)]; rfl
     rw [w1] at hc; omega
    ·obtain ⟨b,h5,h6⟩:=zpo_ (k:=k) hp m (d+1) n (by omega) (by omega) (by omega) (by omega)
     refine ⟨b,?_,?_⟩
     ·rw [← h5]; conv=>lhs; unfold z5e_
      rw [decide_eq_true hc,if_pos rfl,if_neg hd0,decide_eq_false hm,if_neg (by simp),hw]
     ·rw [← h6]; conv=>lhs; unfold z5i_
      rw [decide_eq_true hc,if_pos rfl,if_neg hd0,decide_eq_false hm,if_neg (by simp),hw]
  ·refine ⟨true,?_,?_⟩
   ·unfold z5e_; rw [decide_eq_false hc,if_neg (by simp)]
   ·unfold z5i_; rw [decide_eq_false hc,if_neg (by simp)]
theorem zpp_ {k:Nat} (hk:KK≤k) (p:Int):∃ b,z7r_ k p=some b∧z9g_ k p=some b∧(b=true→2≤p∧p≤251):=by
 have hK:=zk_
 unfold z7r_ zk4_ z9g_
 rw [z4q_,z47_]
 by_cases h:2≤p∧p≤251
 ·obtain ⟨b,h1,h2⟩:=zpo_ (k:=k) (p:=p) h.2 15 2 k (by omega) (by omega) (by omega) (by omega)
  have h1:z5e_ k k p 2 (some true)=some b:=h1
  have h2:z5i_ k k p 2 (some true)=some b:=h2
  refine ⟨b,?_,?_,fun _=>h⟩
  ·simp [h,h1]
  ·simp [h,h2]
 ·exact ⟨false,by simp [h],by simp [h],fun h=>by cases h⟩
abbrev Mat:=Int×Int×Int×List Int
theorem zcq_ {k:Nat} (hk:KK≤k) {v:List Int} (hv:v.length≤1048576) (n:Int) {p:Int} (hp : -1000000≤p∧p≤1000000):z46_ k v n p=some (v.all (fun x=>decide (0≤x∧x≤p-1))&&decide ((v.length:Int)=n)):=by
 have hK:=zk_
 have hw1:z0_ (p-1)=p-1:=w_id (by omega) (by omega)
 unfold z46_
 have:=zjh_ (L:=fun m i=>zaa_ k m v n p i (fun v_3 n_4=>some (decide ((List.length v_3:Int)=n_4)))) (p:=fun x=>decide (0≤x∧x≤p-1)) (r:=some false) (e:=some (decide ((v.length:Int)=n))) v ?_ ?_ (n:=k) (by omega)
 ·refine this.trans ?_
  cases v.all (fun x=>decide (0≤x∧x≤p-1)) <;> simp
 ·intro m i x hx hlt
  have hw:=zj_ (i:=i) (by omega)
  simp only [zaa_,hlt,decide_true,if_true,Int.natCast_nonneg,Int.toNat_natCast,hx,Option.bind_some,z4q_,hw1,hw]
  by_cases c:0≤x∧x≤p-1 <;> simp [c]
 ·intro m
  simp only [zaa_,Int.lt_irrefl,decide_false,Bool.false_eq_true,if_false]
theorem zpq_ {k:Nat} (hk:KK≤k) {v:List Int} (hv:v.length≤1048576) {p:Int} (hp : -1000000≤p∧p≤1000000):zc6_ k v p=some (v.all (fun x=>decide (0≤x∧x≤p-1))):=by
 have hK:=zk_
 have hw1:z0_ (p-1)=p-1:=w_id (by omega) (by omega)
 unfold zc6_ zjl_ zjk_
 rw [z7h_ (L:=fun n i=>z9f_ k n v p (v.length:Int) i (some (-1))) (p:=fun x=>!decide (0≤x∧x≤p-1)) v ?_ ?_ (n:=k) (by omega)]
 ·simp only [Option.bind_some,zax_]
  congr 1
  rw [← List.not_all_eq_any_not,Bool.not_not]
 ·intro n i x hi hlt
  have hw:=zj_ (i:=i) (by omega)
  simp only [z9f_,zjj_,z3m_,z47_,hw1,hlt,decide_true,if_true,Int.natCast_nonneg,Int.toNat_natCast,hi,Option.bind_some,hw]
 ·intro n
  simp [z9f_]
structure MatP (m:Mat) (R C:Nat):Prop where
 rows:m.2.1=(R:Int)
 cols:m.2.2.1=(C:Int)
 r32:R≤32
 c32:C≤32
 len:m.2.2.2.length=R*C
 prime:2≤m.1∧m.1≤251
 cells:∀ x∈m.2.2.2,0≤x∧x≤250
theorem zvs_ {k:Nat} (hk:KK≤k) {m:Mat} (hv:m.2.2.2.length≤1048576):∃ b,zag_ k m=some b∧zc7_ k m=some b∧(b=true→∃ R C,MatP m R C):=by
 obtain ⟨b,h1,h2,h3⟩:=zpp_ hk m.1
 unfold zag_ zc7_ zf7_ z4p_
 rw [h1,h2]
 cases b
 ·exact ⟨false,by simp,by simp,fun h=>by cases h⟩
 ·have hp:=h3 rfl
  simp only [Option.bind_some,if_true,z4q_,z47_,zcq_ hk hv _ (show -1000000≤m.1∧m.1≤1000000 by omega),zpq_ hk hv (show -1000000≤m.1∧m.1≤1000000 by omega)]
  by_cases c1:0≤m.2.1∧m.2.1≤32
  ·by_cases c2:0≤m.2.2.1∧m.2.2.1≤32
   ·rw [decide_eq_true c1,decide_eq_true c2,if_pos rfl,if_pos rfl,if_pos rfl,if_pos rfl]
    obtain ⟨R,hR⟩:=Int.eq_ofNat_of_zero_le c1.1
    obtain ⟨C,hC⟩:=Int.eq_ofNat_of_zero_le c2.1
    have hRC:R*C≤32*32:=Nat.mul_le_mul (by omega) (by omega)
    have hw:z0_ (m.2.1*m.2.2.1)=((R*C:Nat):Int):=by
     rw [hR,hC,← Int.natCast_mul]
     exact w_id (by omega) (by omega)
    rw [hw]
    refine ⟨m.2.2.2.all (fun x=>decide (0≤x∧x≤m.1-1))&&decide ((m.2.2.2.length:Int)=((R*C:Nat):Int)),rfl,?_,fun h=>?_⟩
    ·by_cases c3:(m.2.2.2.length:Int)=((R*C:Nat):Int)
     ·rw [decide_eq_true c3,if_pos rfl,Bool.and_true]
     ·rw [decide_eq_false c3,if_neg (by simp),Bool.and_false]
    ·simp only [Bool.and_eq_true,List.all_eq_true,decide_eq_true_eq] at h
     refine ⟨R,C,hR,hC,by omega,by omega,by omega,hp,fun x hx=>?_⟩
     have:=h.1 x hx
     omega
   ·exact ⟨false,by simp [c1,c2],by simp [c1,c2],fun h=>by cases h⟩
  ·exact ⟨false,by simp [c1],by simp [c1],fun h=>by cases h⟩
abbrev She:=Cx×Int×List Int×List Mat
def ofC (c:Cx) (d:Int):List Nat:=(List.range c.length).filter fun i=>match c[i]? with | some s=>decide ((s.length:Int)=d+1) | none=>false
theorem z6s_ {c:Cx} {d:Int} {i:Nat} (h:i∈ofC c d):i<c.length:=List.mem_range.1 (List.mem_filter.1 h).1
theorem z89_ (c:Cx) (d:Int):(ofC c d).length≤c.length:=by
 unfold ofC
 exact Nat.le_trans (List.length_filter_le ..) (by rw [List.length_range]; exact Nat.le_refl _)
theorem zcr_ (f:Nat→Bool) (n:Nat):(List.range (n+1)).filter f=(List.range n).filter f++(if f n=true then [n] else []):=by
 rw [List.range_succ,List.filter_append,List.filter_cons,List.filter_nil]
theorem zkz_ {k:Nat} (hk:KK≤k) {c:Cx} (hc:z2o_ c) {d:Int} (hd : -1000≤d∧d≤1000):zab_ k c d=some ((ofC c d).map fun i:Nat=>(i:Int)):=by
 have hK:=zk_
 have hL:=z1i_
 obtain ⟨hcl,hce⟩:=hc
 have hwd:z0_ (d+1)=d+1:=w_id (by omega) (by omega)
 unfold zab_
 have:=z1z_ (α:=List Int) (A:=List Int) (L:=fun n i q=>z7s_ k n c d i q (fun q_4=>some q_4)) (I:=fun pre q=>q=((List.range pre.length).filter fun i=>match c[i]? with | some s=>decide ((s.length:Int)=d+1) | none=>false).map fun i:Nat=>(i:Int)) (G:=fun _ _=>some ((ofC c d).map fun i:Nat=>(i:Int))) c ?_ ?_ k (by omega) [] (by simp)
 ·exact this
 ·intro n pre x post q hx hq ih hg hlt
  have hw:=zj_ (i:=pre.length) (by omega)
  have hql:q.length≤pre.length:=by rw [hq,List.length_map]; exact Nat.le_trans (List.length_filter_le ..) (by rw [List.length_range]; exact Nat.le_refl _)
  have hlim:(q.length+1)*8≤LIM:=by omega
  simp only [z7s_,hlt,decide_true,if_true,Int.natCast_nonneg,Int.toNat_natCast,hg,Option.bind_some,hw,hwd,List.length_singleton,hlim]
  by_cases hb:(x.length:Int)=d+1
  ·rw [decide_eq_true hb,if_pos rfl]
   refine ih _ ?_
   rw [List.length_append,List.length_singleton,zcr_,hg]
   simp only [hb,decide_true,if_true,List.map_append,hq,List.map_cons,List.map_nil]
  ·rw [decide_eq_false hb,if_neg (by simp)]
   refine ih _ ?_
   rw [List.length_append,List.length_singleton,zcr_,hg]
   simp only [hb,decide_false,Bool.false_eq_true,if_false,List.append_nil,hq]
 ·intro n q hq
  simp only [z7s_,Int.lt_irrefl,decide_false,Bool.false_eq_true,if_false,hq]
  rfl
theorem zhh_ {k:Nat} (hk:KK≤k) {c:Cx} (hc:z2o_ c) {d:Int} (hd : -1000≤d∧d≤1000):z7j_ k c d=some ((ofC c d).map fun i:Nat=>(i:Int)):=by
 have hK:=zk_
 have hL:=z1i_
 obtain ⟨hcl,hce⟩:=hc
 have hwd:z0_ (d+1)=d+1:=w_id (by omega) (by omega)
 unfold z7j_
 have:=z1z_ (α:=List Int) (A:=List Int) (L:=fun n i q=>z87_ k n d c (c.length:Int) i q (fun q_4=>some q_4)) (I:=fun pre q=>q=((List.range pre.length).filter fun i=>match c[i]? with | some s=>decide ((s.length:Int)=d+1) | none=>false).map fun i:Nat=>(i:Int)) (G:=fun _ _=>some ((ofC c d).map fun i:Nat=>(i:Int))) c ?_ ?_ k (by omega) [] (by simp)
 ·exact this
 ·intro n pre x post q hx hq ih hg hlt
  have hw:=zj_ (i:=pre.length) (by omega)
  have hql:q.length≤pre.length:=by rw [hq,List.length_map]; exact Nat.le_trans (List.length_filter_le ..) (by rw [List.length_range]; exact Nat.le_refl _)
  have hlim:(q.length+1)*8≤LIM:=by omega
  simp only [z87_,z4p_,hlt,decide_true,if_true,Int.natCast_nonneg,Int.toNat_natCast,hg,Option.bind_some,hw,hwd,List.length_singleton,hlim]
  by_cases hb:(x.length:Int)=d+1
  ·rw [decide_eq_true hb,if_pos rfl]
   refine ih _ ?_
   rw [List.length_append,List.length_singleton,zcr_,hg]
   simp only [hb,decide_true,if_true,List.map_append,hq,List.map_cons,List.map_nil]
  ·rw [decide_eq_false hb,if_neg (by simp)]
   refine ih _ ?_
   rw [List.length_append,List.length_singleton,zcr_,hg]
   simp only [hb,decide_false,Bool.false_eq_true,if_false,List.append_nil,hq]
 ·intro n q hq
  simp only [z87_,Int.lt_irrefl,decide_false,Bool.false_eq_true,if_false,hq]
  rfl
structure StP (c:Cx) (st:List Int):Prop where
 len:st.length=c.length
 val:∀ x∈st,0≤x∧x≤3
def zg_ (st:List Int) (l:List Nat):Int:=(l.map fun i=>st.getD i 0).sum
theorem zhi_ (st:List Int) (l:List Nat) (i:Nat):zg_ st (l++[i])=zg_ st l+st.getD i 0:=by unfold zg_; simp
theorem z49_ {c:Cx} {st:List Int} (h:StP c st) {i:Nat} (hi:i<c.length):st[i]?=some (st.getD i 0)∧0≤st.getD i 0∧st.getD i 0≤3:=by
 have hl:i<st.length:=by rw [h.len]; exact hi
 have e:st.getD i 0=st[i]:=by rw [List.getD_eq_getElem?_getD,List.getElem?_eq_getElem hl]; rfl
 rw [e]
 exact ⟨List.getElem?_eq_getElem hl,h.val _ (List.getElem_mem hl)⟩
theorem z6t_ {c:Cx} {st:List Int} (h:StP c st):∀ (l:List Nat),(∀ i∈l,i<c.length)→0≤zg_ st l∧zg_ st l≤3*l.length
 | [],_=>by simp [zg_]
 | i::l,hl=>by
  have ih:=z6t_ h l (fun j hj=>hl j (by simp [hj]))
  have:=z49_ h (hl i (by simp))
  have e:zg_ st (i::l)=st.getD i 0+zg_ st l:=by unfold zg_; simp
  rw [e,List.length_cons]
  omega
theorem zcs_ {k:Nat} (hk:KK≤k) {c:Cx} (hc:z2o_ c) {st:List Int} (h:StP c st) {d:Int} (hd : -1000≤d∧d≤1000):z6i_ k c st d=some (zg_ st (ofC c d)):=by
 have hK:=zk_
 have hol:=z89_ c d
 have hcl:=hc.1
 unfold z6i_
 rw [zkz_ hk hc hd]
 simp only [Option.bind_some]
 have:=z1z_ (α:=Nat) (A:=Int) (L:=fun n i z=>zac_ k n st z i ((ofC c d).map fun i:Nat=>(i:Int)) (fun z=>some z)) (I:=fun pre z=>z=zg_ st pre) (G:=fun _ _=>some (zg_ st (ofC c d))) (ofC c d) ?_ ?_ k (by omega) 0 rfl
 ·exact this
 ·intro n pre x post z hx hz ih hg hlt
  have hw:=zj_ (i:=pre.length) (by omega)
  have hxc:x<c.length:=z6s_ (by rw [hx]; simp:x∈ofC c d)
  have hF:((ofC c d).map fun i:Nat=>(i:Int))[pre.length]?=some (x:Int):=by rw [List.getElem?_map,hg]; rfl
  have hpl:pre.length<(ofC c d).length:=by omega
  obtain ⟨s1,s2,s3⟩:=z49_ h hxc
  have hb:=z6t_ h pre (fun j hj=>z6s_ (by rw [hx]; simp [hj]:j∈ofC c d))
  have hwz:z0_ (z+st.getD x 0)=z+st.getD x 0:=w_id (by omega) (by omega)
  simp only [zac_,List.length_map,hlt,hpl,decide_true,if_true,Int.natCast_nonneg,Int.toNat_natCast,and_self,hF,s1,Option.bind_some,hw,hwz]
  exact ih _ (by rw [zhi_,hz])
 ·intro n z hz
  simp only [zac_,List.length_map,Int.lt_irrefl,decide_false,Bool.false_eq_true,if_false,hz]
theorem zct_ {k:Nat} (hk:KK≤k) {s:She} (hc:z2o_ s.1) (h:StP s.1 s.2.2.1) {d:Int} (hd : -1000≤d∧d≤1000):z6c_ k s d=some (zg_ s.2.2.1 (ofC s.1 d)):=by
 have hK:=zk_
 have hol:=z89_ s.1 d
 have hcl:=hc.1
 unfold z6c_
 rw [zhh_ hk hc hd]
 simp only [Option.bind_some,List.length_map]
 have:=z1z_ (α:=Nat) (A:=Int) (L:=fun n i z=>zav_ k n z ((ofC s.1 d).length:Int) i ((ofC s.1 d).map fun i:Nat=>(i:Int)) s (fun z=>some z)) (I:=fun pre z=>z=zg_ s.2.2.1 pre) (G:=fun _ _=>some (zg_ s.2.2.1 (ofC s.1 d))) (ofC s.1 d) ?_ ?_ k (by omega) 0 rfl
 ·exact this
 ·intro n pre x post z hx hz ih hg hlt
  have hw:=zj_ (i:=pre.length) (by omega)
  have hxc:x<s.1.length:=z6s_ (by rw [hx]; simp:x∈ofC s.1 d)
  have hF:((ofC s.1 d).map fun i:Nat=>(i:Int))[pre.length]?=some (x:Int):=by rw [List.getElem?_map,hg]; rfl
  have hpl:pre.length<(ofC s.1 d).length:=by omega
  obtain ⟨s1,s2,s3⟩:=z49_ h hxc
  have hb:=z6t_ h pre (fun j hj=>z6s_ (by rw [hx]; simp [hj]:j∈ofC s.1 d))
  have hwz:z0_ (z+s.2.2.1.getD x 0)=z+s.2.2.1.getD x 0:=w_id (by omega) (by omega)
  simp only [zav_,List.length_map,hlt,hpl,decide_true,if_true,Int.natCast_nonneg,Int.toNat_natCast,and_self,hF,s1,Option.bind_some,hw,hwz]
  exact ih _ (by rw [zhi_,hz])
 ·intro n z hz
  simp only [zav_,Int.lt_irrefl,decide_false,Bool.false_eq_true,if_false,hz]
noncomputable instance stP_dec (c:Cx) (st:List Int):Decidable (StP c st):=Classical.propDecidable _
noncomputable def stB (c:Cx) (st:List Int):Bool:=decide (StP c st)&&(List.range 4).all fun d=>decide (zg_ st (ofC c (d:Int))≤32)
theorem zl0_ {c:Cx} {st:List Int} (h:stB c st=true):StP c st:=by
 unfold stB at h
 rw [Bool.and_eq_true,decide_eq_true_eq] at h
 exact h.1
theorem zpr_ {c:Cx} {st:List Int}:(st.all (fun x=>decide (0≤x∧x≤4-1))&&decide ((st.length:Int)=(c.length:Int)))=true↔StP c st:=by
 simp only [Bool.and_eq_true,List.all_eq_true,decide_eq_true_eq]
 exact ⟨fun h=>⟨by omega,fun x hx=>by have:=h.1 x hx; omega⟩,fun h=>⟨fun x hx=>by have:=h.val x hx; omega,by have:=h.len; omega⟩⟩
theorem zvt_ {k:Nat} (hk:KK≤k) {c:Cx} (hc:z2o_ c) {st:List Int} (hs:st.length≤1048576):zgk_ k c st=some (stB c st):=by
 have hK:=zk_
 unfold zgk_
 rw [zcq_ hk hs _ (by omega)]
 simp only [Option.bind_some]
 by_cases h:StP c st
 ·rw [zpr_.2 h]
  simp only [Bool.not_true,Bool.false_eq_true,if_false]
  have:=z3l_ (L:=fun n i=>zad_ k n c st i (some true)) (b:=4) (p:=fun d:Nat=>decide (zg_ st (ofC c (d:Int))≤32)) (r:=some false) (e:=some true) ?_ ?_ (n:=k) (by omega)
  ·rw [this]
   unfold stB
   rw [decide_eq_true h,Bool.true_and]
   cases (List.range 4).all fun d=>decide (zg_ st (ofC c (d:Int))≤32) <;> rfl
  ·intro n i hi
   have hlt:(i:Int)≤3:=by omega
   have hw:=zj_ (i:=i) (by omega)
   simp only [zad_,hlt,decide_true,if_true,zcs_ hk hc h (d:=(i:Int)) (by omega),Option.bind_some,hw]
   by_cases c1:zg_ st (ofC c (i:Int))≤32
   ·rw [decide_eq_true c1,decide_eq_false (by omega),if_neg (by simp),if_pos rfl]
   ·rw [decide_eq_false c1,decide_eq_true (by omega),if_pos rfl,if_neg (by simp)]
  ·intro n
   have:¬ (((4:Nat):Int)≤3):=by omega
   simp only [zad_,this,decide_false,Bool.false_eq_true,if_false]
 ·have h2:(st.all (fun x=>decide (0≤x∧x≤4-1))&&decide ((st.length:Int)=(c.length:Int)))=false:=by rw [Bool.eq_false_iff,ne_eq,zpr_]; exact h
  rw [h2,if_pos (by simp)]
  unfold stB
  rw [decide_eq_false h]; rfl
theorem zvu_ {k:Nat} (hk:KK≤k) {c:Cx} (hc:z2o_ c) {st:List Int} (hs:st.length≤1048576):zfa_ k c st=some (stB c st):=by
 have hK:=zk_
 have hcf:zhb_ k st ()=some (st.any fun x=>!decide (0≤x∧x≤3)):=by
  unfold zhb_ zkt_
  rw [z7h_ (L:=fun n i=>zau_ k n st () (st.length:Int) i (some (-1))) (p:=fun x=>!decide (0≤x∧x≤3)) st ?_ ?_ (n:=k) (by omega)]
  ·rw [Option.bind_some,zax_]
  ·intro n i x hi hlt
   have hw:=zj_ (i:=i) (by omega)
   simp only [zau_,zks_,z47_,hlt,decide_true,if_true,Int.natCast_nonneg,Int.toNat_natCast,hi,Option.bind_some,hw]
  ·intro n
   simp [zau_]
 unfold zfa_
 rw [hcf]
 simp only [Option.bind_some]
 by_cases hl:st.length=c.length
 ·rw [decide_eq_true (show (st.length:Int)=(c.length:Int) by omega),if_neg (by simp)]
  by_cases hv:∀ x∈st,0≤x∧x≤3
  ·have h:StP c st:=⟨hl,hv⟩
   have ha:(st.any fun x=>!decide (0≤x∧x≤3))=false:=by
    rw [List.any_eq_false]; intro x hx; simp [hv x hx]
   rw [ha,if_neg (by simp)]
   have:=z3l_ (L:=fun n i=>zaw_ k n st i c (some true)) (b:=4) (p:=fun d:Nat=>decide (zg_ st (ofC c (d:Int))≤32)) (r:=some false) (e:=some true) ?_ ?_ (n:=k) (by omega)
   ·rw [this]
    unfold stB
    rw [decide_eq_true h,Bool.true_and]
    cases (List.range 4).all fun d=>decide (zg_ st (ofC c (d:Int))≤32) <;> rfl
   ·intro n i hi
    have hlt:(i:Int)<4:=by omega
    have hw:=zj_ (i:=i) (by omega)
    have hst:=zct_ hk (s:=(c,0,st,[])) hc h (d:=(i:Int)) (by omega)
    simp only at hst
    simp only [zaw_,hlt,decide_true,if_true,hst,Option.bind_some,hw]
    by_cases c1:zg_ st (ofC c (i:Int))≤32
    ·rw [decide_eq_true c1,decide_eq_false (by omega),if_neg (by simp),if_pos rfl]
    ·rw [decide_eq_false c1,decide_eq_true (by omega),if_pos rfl,if_neg (by simp)]
   ·intro n
    have:¬ (((4:Nat):Int)<4):=by omega
    simp only [zaw_,this,decide_false,Bool.false_eq_true,if_false]
  ·have ha:(st.any fun x=>!decide (0≤x∧x≤3))=true:=by
    rw [List.any_eq_true]
    apply Classical.byContradiction
    intro hn
    apply hv
    intro x hx
    apply Classical.byContradiction
    intro hx2
    exact hn ⟨x,hx,by simp only [Bool.not_eq_true',decide_eq_false_iff_not]; exact hx2⟩
   rw [ha,if_pos rfl]
   unfold stB
   rw [decide_eq_false (fun h:StP c st=>hv h.val)]; rfl
 ·rw [decide_eq_false (show ¬ (st.length:Int)=(c.length:Int) by omega),if_pos (by simp)]
  unfold stB
  rw [decide_eq_false (fun h:StP c st=>hl h.len)]; rfl
def zp_ (c:Cx) (s:List Int):List Nat:=(z1e_ s).map (posC c)
theorem zps_ (s:List Int):(z1e_ s).length=if 1<s.length then s.length else 0:=by
 unfold z1e_
 split
 ·rw [List.length_map,List.length_range]
 ·rfl
theorem zay_ (c:Cx) (s:List Int):(zp_ c s).length=if 1<s.length then s.length else 0:=by unfold zp_; rw [List.length_map,zps_]
theorem zpt_ {c:Cx} (h:CxP c) {s:List Int} (hs:s∈c) {f:Nat} (hf:f∈zp_ c s):f<c.length:=by
 unfold zp_ at hf
 obtain ⟨g,hg,rfl⟩:=List.mem_map.1 hf
 obtain ⟨h1,j,hj,rfl⟩:=zcp_.1 hg
 exact z5j_.2 (h.face s hs h1 j hj)
theorem z3n_ {c:Cx} (h:CxP c):z2o_ c:=⟨by have:=h.len; omega,fun s hs=>by have:=(h.simp s hs).len4; omega⟩
theorem zpu_ {k:Nat} (hk:KK≤k) {c:Cx} (h:CxP c) {j:Nat} {s:List Int} (hj:c[j]?=some s):zaf_ k c (j:Int)=some ((zp_ c s).map fun i:Nat=>(i:Int)):=by
 have hK:=zk_
 have hL:=z1i_
 have hm:=List.mem_of_getElem? hj
 have hs4:=(h.simp s hm).len4
 have hsc:=z3n_ h
 unfold zaf_
 rw [if_pos (Int.natCast_nonneg _),Int.toNat_natCast,hj]
 simp only [Option.bind_some]
 by_cases c1:1<s.length
 ·have:=z1z_ (α:=Nat) (A:=List Int) (L:=fun n i q=>z7u_ k n c s i q (fun q_5=>some q_5)) (I:=fun pre q=>q=(List.range pre.length).map fun i=>((posC c (z1m_ s i):Nat):Int)) (G:=fun _ _=>some ((zp_ c s).map fun i:Nat=>(i:Int))) (List.range s.length) ?_ ?_ k (by simp; omega) [] (by simp)
  ·exact this
  ·intro n pre x post q hx hq ih hg hlt
   rw [List.length_range] at hlt
   have hpl:pre.length<s.length:=by omega
   have hw:=zj_ (i:=pre.length) (by omega)
   have hlim:(q.length+1)*8≤LIM:=by rw [hq,List.length_map,List.length_range]; omega
   have hin:=h.face s hm c1 pre.length hpl
   have c1':(1:Int)<(s.length:Int):=by omega
   simp only [z7u_,hlt,c1',decide_true,if_true,zph_ (show s.length≤1048576 by omega) hpl,zpi_ hk hsc,z5j_.2 hin,Option.bind_some,List.length_singleton,hlim,hw]
   refine ih _ ?_
   rw [hq,List.length_append,List.length_singleton,List.range_succ,List.map_append]
   rfl
  ·intro n q hq
   rw [List.length_range] at hq ⊢
   simp only [z7u_,Int.lt_irrefl,decide_false,Bool.false_eq_true,if_false,hq]
   unfold zp_ z1e_
   rw [if_pos c1,List.map_map,List.map_map]
   rfl
 ·obtain ⟨n,hn⟩:∃ n,k=n+1:=⟨k-1,by omega⟩
  have c1':¬ (1:Int)<(s.length:Int):=by omega
  conv=>lhs; arg 2; rw [hn]
  simp only [z7u_,c1',decide_false,Bool.false_eq_true,if_false]
  unfold zp_ z1e_
  rw [if_neg c1]
  split <;> rfl
theorem zpv_ {k:Nat} (hk:KK≤k) {c:Cx} (h:CxP c) {j:Nat} {s:List Int} (hj:c[j]?=some s):zc5_ k c (j:Int)=some ((zp_ c s).map fun i:Nat=>(i:Int)):=by
 have hK:=zk_
 have hL:=z1i_
 have hm:=List.mem_of_getElem? hj
 have hs4:=(h.simp s hm).len4
 have hsc:=z3n_ h
 have hfl:=zps_ s
 have hfl':(z1e_ s).length≤4:=by rw [hfl]; split <;> omega
 unfold zc5_
 rw [if_pos (Int.natCast_nonneg _),Int.toNat_natCast,hj]
 simp only [Option.bind_some,zpk_ hk (show s.length≤1048576 by omega)]
 have:=z1z_ (α:=List Int) (A:=List Int) (L:=fun n i q=>z9c_ k n ((z1e_ s).length:Int) i q (z1e_ s) c (fun q_8=>some q_8)) (I:=fun pre q=>q=pre.map fun f=>((posC c f:Nat):Int)) (G:=fun _ _=>some ((zp_ c s).map fun i:Nat=>(i:Int))) (z1e_ s) ?_ ?_ k (by omega) [] rfl
 ·exact this
 ·intro n pre x post q hx hq ih hg hlt
  have hpl:pre.length<(z1e_ s).length:=by omega
  have hw:=zj_ (i:=pre.length) (by omega)
  have hlim:(q.length+1)*8≤LIM:=by rw [hq,List.length_map]; omega
  obtain ⟨h1,i,hi,rfl⟩:=zcp_.1 (List.mem_of_getElem? hg)
  have hin:=h.face s hm h1 i hi
  simp only [z9c_,hlt,hpl,decide_true,if_true,Int.natCast_nonneg,Int.toNat_natCast,and_self,hg,zpn_ hk hsc h.ord (show (z1m_ s i).length≤1048576 by rw [zhf_ hi]; omega),z5j_.2 hin,Option.bind_some,List.length_singleton,hlim,hw]
  exact ih _ (by rw [hq,List.map_append]; rfl)
 ·intro n q hq
  simp only [z9c_,Int.lt_irrefl,decide_false,Bool.false_eq_true,if_false,hq]
  unfold zp_
  rw [List.map_map]
  rfl
def z1t_ (c:Cx) (j:Nat):List (Nat×Nat×Nat):=match c[j]? with
 | some s=>(List.range (zp_ c s).length).map fun i=>(j,i,(zp_ c s).getD i 0)
 | none=>[]
def arrN (c:Cx) (n:Nat):List (Nat×Nat×Nat):=(List.range n).flatMap (z1t_ c)
theorem z8a_ (c:Cx) (n:Nat):arrN c (n+1)=arrN c n++z1t_ c n:=by unfold arrN; rw [List.range_succ,List.flatMap_append]; simp
theorem zhj_ {c:Cx} {j:Nat} {s:List Int} (hj:c[j]?=some s):(z1t_ c j).length=if 1<s.length then s.length else 0:=by
 unfold z1t_; rw [hj]; simp only [List.length_map,List.length_range,zay_]
theorem zpw_ {c:Cx} {j i:Nat} {s:List Int} (hj:c[j]?=some s) (hi:i<(zp_ c s).length):(z1t_ c j)[i]?=some (j,i,(zp_ c s).getD i 0):=by
 unfold z1t_; rw [hj]; simp only [List.getElem?_map,List.getElem?_range hi]; rfl
theorem z5k_ {c:Cx} (h:CxP c):∀ n,n≤c.length→(arrN c n).length≤4*n
 | 0,_=>by simp [arrN]
 | n+1,hn=>by
  have ih:=z5k_ h n (by omega)
  have hg:c[n]?=some c[n]:=List.getElem?_eq_getElem (by omega)
  have h4:=(h.simp _ (List.mem_of_getElem? hg)).len4
  rw [z8a_,List.length_append,zhj_ hg]
  split <;> omega
theorem zvv_ (c:Cx) {a b:Nat} (h:a≤b):(arrN c a).length≤(arrN c b).length:=by
 induction b with
 | zero=>rw [show a=0 by omega]; exact Nat.le_refl _
 | succ b ih =>
  by_cases e:a=b+1
  ·rw [e]; exact Nat.le_refl _
  ·have:=ih (by omega)
   rw [z8a_,List.length_append]; omega
theorem zl1_ {k:Nat} (hk:KK≤k) {c:Cx} (h:CxP c) {j i:Nat} (hj:j≤c.length) (hi:i≤4):zae_ k c (j:Int) (i:Int)=some (((arrN c j).length+i:Nat):Int):=by
 have hK:=zk_
 have hcl:=h.len
 unfold zae_
 have:=z1z_ (α:=Nat) (A:=Int) (L:=fun n p z=>z7t_ k n c (j:Int) (i:Int) z p (fun i_3 at_4=>some (z0_ (at_4+i_3)))) (I:=fun pre z=>z=((arrN c pre.length).length:Int)) (G:=fun _ _=>some (((arrN c j).length+i:Nat):Int)) (List.range j) ?_ ?_ k (by simp; omega) 0 rfl
 ·exact this
 ·intro n pre x post z hx hz ih hg hlt
  rw [List.length_range] at hlt
  have hpl:pre.length<c.length:=by omega
  have hw:=zj_ (i:=pre.length) (by omega)
  have hgc:c[pre.length]?=some c[pre.length]:=List.getElem?_eq_getElem hpl
  have h4:=(h.simp _ (List.mem_of_getElem? hgc)).len4
  have hal:=z5k_ h pre.length (by omega)
  have hnx:(arrN c (pre.length+1)).length=(arrN c pre.length).length+(if 1<(c[pre.length]).length then (c[pre.length]).length else 0):=by rw [z8a_,List.length_append,zhj_ hgc]
  simp only [z7t_,hlt,decide_true,if_true,Int.natCast_nonneg,Int.toNat_natCast,hgc,Option.bind_some,hw]
  by_cases c1:1<(c[pre.length]).length
  ·have hwz:z0_ (z+((c[pre.length]).length:Int))=z+((c[pre.length]).length:Int):=w_id (by omega) (by omega)
   rw [decide_eq_true (by omega),if_pos rfl,hwz]
   refine ih _ ?_
   rw [if_pos c1] at hnx
   rw [List.length_append,List.length_singleton,hnx,hz]; rfl
  ·rw [decide_eq_false (by omega),if_neg (by simp)]
   refine ih _ ?_
   rw [if_neg c1] at hnx
   rw [List.length_append,List.length_singleton,hnx,hz]; rfl
 ·intro n z hz
  rw [List.length_range] at hz ⊢
  have hal:=z5k_ h j hj
  have hwz:z0_ (z+(i:Int))=(((arrN c j).length+i:Nat):Int):=by rw [w_id (by omega) (by omega)]; omega
  simp only [z7t_,Int.lt_irrefl,decide_false,Bool.false_eq_true,if_false,hwz]
def toI3 (a:Nat×Nat×Nat):Int×Int×Int:=((a.1:Int),(a.2.1:Int),(a.2.2:Int))
theorem zvw_ {k:Nat} (hk:KK≤k) {c:Cx} (h:CxP c):zf6_ k c=some ((arrN c c.length).map toI3):=by
 have hK:=zk_
 have hL:=z1i_
 have hcl:=h.len
 unfold zf6_ zji_
 simp only [Option.bind_some]
 have:=z1z_ (α:=List Int) (A:=List (Int×Int×Int)) (L:=fun n i q=>z9e_ k n (c.length:Int) i q c (fun q_8=>some q_8)) (I:=fun pre q=>q=(arrN c pre.length).map toI3) (G:=fun _ _=>some ((arrN c c.length).map toI3)) c ?_ ?_ k (by omega) [] rfl
 ·exact this
 ·intro n pre x post q hx hq ih hg hlt
  have hw:=zj_ (i:=pre.length) (by omega)
  have hpl:pre.length<c.length:=by omega
  have h4:=(h.simp _ (List.mem_of_getElem? hg)).len4
  have hal:=z5k_ h pre.length (by omega)
  have hfl:=zay_ c x
  have hfl4:(zp_ c x).length≤4:=by rw [hfl]; split <;> omega
  simp only [z9e_,hlt,decide_true,if_true,zpv_ hk h hg,Option.bind_some,List.length_map]
  have inner:∀ E:Int→Int→List (Int×Int×Int)→Cx→Option (List (Int×Int×Int)),z68_ k k (pre.length:Int) (c.length:Int) (pre.length:Int) ((zp_ c x).length:Int) 0 q ((zp_ c x).map fun i:Nat=>(i:Int)) c E=E (c.length:Int) (pre.length:Int) ((arrN c (pre.length+1)).map toI3) c:=by
   intro E
   have:=z1z_ (α:=Nat) (A:=List (Int×Int×Int)) (L:=fun n i r=>z68_ k n (pre.length:Int) (c.length:Int) (pre.length:Int) ((zp_ c x).length:Int) i r ((zp_ c x).map fun i:Nat=>(i:Int)) c E) (I:=fun pre2 r=>r=((arrN c pre.length)++(List.range pre2.length).map fun i=>(pre.length,i,(zp_ c x).getD i 0)).map toI3) (G:=fun _ _=>E (c.length:Int) (pre.length:Int) ((arrN c (pre.length+1)).map toI3) c) (zp_ c x) ?_ ?_ k (by omega) q (by simp [hq])
   ·exact this
   ·intro n pre2 f post2 r hx2 hr ih2 hg2 hlt2
    have hpl2:pre2.length<(zp_ c x).length:=by omega
    have hw2:=zj_ (i:=pre2.length) (by omega)
    have hF:((zp_ c x).map fun i:Nat=>(i:Int))[pre2.length]?=some (f:Int):=by rw [List.getElem?_map,hg2]; rfl
    have hlim:(r.length+1)*24≤LIM:=by rw [hr,List.length_map,List.length_append,List.length_map,List.length_range]; omega
    have hgd:(zp_ c x).getD pre2.length 0=f:=by rw [List.getD_eq_getElem?_getD,hg2]; rfl
    simp only [z68_,List.length_map,hlt2,hpl2,decide_true,if_true,Int.natCast_nonneg,Int.toNat_natCast,and_self,hF,Option.bind_some,List.length_singleton,hlim,hw2]
    refine ih2 _ ?_
    rw [hr,List.length_append,List.length_singleton,List.range_succ,List.map_append (l₁:=List.range pre2.length),← List.append_assoc,List.map_append (f:=toI3) (l₁:=arrN c pre.length++_)]
    show _=_++[toI3 (pre.length,pre2.length,(zp_ c x).getD pre2.length 0)]
    rw [hgd]; rfl
   ·intro n r hr
    have e:z1t_ c pre.length=(List.range (zp_ c x).length).map fun i=>(pre.length,i,(zp_ c x).getD i 0):=by unfold z1t_; rw [hg]
    simp only [z68_,Int.lt_irrefl,decide_false,Bool.false_eq_true,if_false,hr]
    rw [z8a_,e]
  rw [inner,hw]
  exact ih _ (by rw [List.length_append,List.length_singleton])
 ·intro n q hq
  simp only [z9e_,Int.lt_irrefl,decide_false,Bool.false_eq_true,if_false,hq]
noncomputable def matB (k:Nat) (m:Mat):Bool:=(zag_ k m).getD false
theorem zl2_ {k:Nat} (hk:KK≤k) {m:Mat} (hv:m.2.2.2.length≤1048576):zag_ k m=some (matB k m)∧zc7_ k m=some (matB k m)∧(matB k m=true→∃ R C,MatP m R C):=by
 obtain ⟨b,h1,h2,h3⟩:=zvs_ hk hv
 have e:matB k m=b:=by unfold matB; rw [h1]; rfl
 rw [e]
 exact ⟨h1,h2,h3⟩
noncomputable def z6u_ (k:Nat) (p:Int):Bool:=(z7r_ k p).getD false
theorem zl3_ {k:Nat} (hk:KK≤k) (p:Int):z7r_ k p=some (z6u_ k p)∧z9g_ k p=some (z6u_ k p)∧(z6u_ k p=true→2≤p∧p≤251):=by
 obtain ⟨b,h1,h2,h3⟩:=zpp_ hk p
 have e:z6u_ k p=b:=by unfold z6u_; rw [h1]; rfl
 rw [e]
 exact ⟨h1,h2,h3⟩
noncomputable def okA (k:Nat) (s:She) (a:Nat×Nat×Nat) (m:Mat):Bool:=matB k m&&(decide (m.1=s.2.1)&&(decide (m.2.1=s.2.2.1.getD a.1 0)&&decide (m.2.2.1=s.2.2.1.getD a.2.2 0)))
noncomputable def chk1 (k:Nat) (s:She) (o:Nat) (l:List (Nat×Nat×Nat)) (i:Nat):Bool:=match l[i]? with
 | some a=>(match s.2.2.2[o+i]? with | some m=>okA k s a m | none=>false)
 | none=>true
def chk (k:Nat) (s:She) (o:Nat) (l:List (Nat×Nat×Nat)):Prop:=∀ j a,l[j]?=some a→∃ m,s.2.2.2[o+j]?=some m∧okA k s a m=true
theorem zpx_ {k:Nat} {s:She} {o:Nat} {l:List (Nat×Nat×Nat)}:(List.range l.length).all (chk1 k s o l)=true↔chk k s o l:=by
 simp only [List.all_eq_true,List.mem_range]
 constructor
 ·intro z i a ha
  have:=z i (List.getElem?_eq_some_iff.1 ha).1
  unfold chk1 at this
  rw [ha] at this
  cases hm:s.2.2.2[o+i]? with
  | none=>rw [hm] at this; cases this
  | some m=>rw [hm] at this; exact ⟨m,rfl,this⟩
 ·intro z i hi
  obtain ⟨m,h1,h2⟩:=z i _ (List.getElem?_eq_getElem hi)
  unfold chk1
  rw [List.getElem?_eq_getElem hi,h1]
  exact h2
theorem zvx_ {k:Nat} {s:She} {o:Nat} {l r:List (Nat×Nat×Nat)}:chk k s o (l++r)↔chk k s o l∧chk k s (o+l.length) r:=by
 constructor
 ·intro h
  refine ⟨fun j a hj=>h j a (by rw [List.getElem?_append_left (List.getElem?_eq_some_iff.1 hj).1]; exact hj),fun j a hj=>?_⟩
  have:=h (l.length+j) a (by rw [List.getElem?_append_right (by omega),Nat.add_sub_cancel_left]; exact hj)
  rwa [← Nat.add_assoc] at this
 ·rintro ⟨h1,h2⟩ j a hj
  by_cases c:j<l.length
  ·rw [List.getElem?_append_left c] at hj; exact h1 j a hj
  ·rw [List.getElem?_append_right (by omega)] at hj
   have:=h2 (j-l.length) a hj
   rwa [show o+l.length+(j-l.length)=o+j by omega] at this
theorem zl4_ {k:Nat} {s:She}:∀ n,(∀ j,j<n→chk k s (arrN s.1 j).length (z1t_ s.1 j))↔chk k s 0 (arrN s.1 n)
 | 0=>by
  constructor
  ·intro _ j a hj; simp [arrN] at hj
  ·intro _ j hj; omega
 | n+1=>by
  rw [z8a_,zvx_,← zl4_ n,Nat.zero_add]
  constructor
  ·intro h; exact ⟨fun j hj=>h j (by omega),h n (by omega)⟩
  ·rintro ⟨h1,h2⟩ j hj
   by_cases e:j=n
   ·subst e; exact h2
   ·exact h1 j (by omega)
open Classical in
noncomputable def sheB (k:Nat) (s:She):Bool:=cxB s.1&&(z6u_ k s.2.1&&(stB s.1 s.2.2.1&&decide (s.2.2.2.length=(arrN s.1 s.1.length).length∧chk k s 0 (arrN s.1 s.1.length))))
structure smallSh (s:She):Prop where
 cx:z2o_ s.1
 st:s.2.2.1.length≤1048576
 maps:s.2.2.2.length≤1048576
 cells:∀ m∈s.2.2.2,m.2.2.2.length≤1048576
theorem zvy_ {c:Cx} (h:CxP c) {n j:Nat} {a:Nat×Nat×Nat} (hn:n≤c.length) (hj:(arrN c n)[j]?=some a):a.1<c.length∧a.2.2<c.length:=by
 have hm:=List.mem_of_getElem? hj
 unfold arrN at hm
 obtain ⟨i,hi,ha⟩:=List.mem_flatMap.1 hm
 rw [List.mem_range] at hi
 have hg:c[i]?=some c[i]:=List.getElem?_eq_getElem (by omega)
 unfold z1t_ at ha
 rw [hg] at ha
 obtain ⟨p,hp,rfl⟩:=List.mem_map.1 ha
 rw [List.mem_range] at hp
 refine ⟨by show i<_; omega,zpt_ h (List.mem_of_getElem? hg) ?_⟩
 show (zp_ c c[i]).getD p 0∈_
 rw [List.getD_eq_getElem?_getD,List.getElem?_eq_getElem hp]
 exact List.getElem_mem hp
open Classical in
theorem zvz_ {k:Nat} (hk:KK≤k) {s:She} (hs:smallSh s):zgm_ k s=some (sheB k s):=by
 have hK:=zk_
 unfold zgm_ sheB
 obtain ⟨p1,p2,p3⟩:=zl3_ hk s.2.1
 rw [zvo_ hk hs.cx,p1,zvt_ hk hs.cx hs.st]
 cases hcx:cxB s.1 with
 | false=>simp
 | true =>
 cases z6u_ k s.2.1 with
 | false=>simp
 | true =>
 cases hst:stB s.1 s.2.2.1 with
 | false=>simp
 | true =>
  have h:=z6r_.1 hcx
  have hS:=zl0_ hst
  have hcl:=h.len
  have hal:=z5k_ h s.1.length (Nat.le_refl _)
  have hcount:zgl_ k s.1=some ((arrN s.1 s.1.length).length:Int):=by
   unfold zgl_
   have:=zl1_ hk h (j:=s.1.length) (i:=0) (Nat.le_refl _) (by omega)
   rw [Nat.add_zero] at this
   rw [show ((0:Nat):Int)=0 from rfl] at this
   rw [this]; rfl
  simp only [Option.bind_some,Bool.not_true,Bool.false_eq_true,if_false,hcount,Bool.true_and]
  by_cases hN:s.2.2.2.length=(arrN s.1 s.1.length).length
  ·rw [decide_eq_true (show (s.2.2.2.length:Int)=((arrN s.1 s.1.length).length:Int) by omega),if_neg (by simp)]
   have:=z3l_ (L:=fun n i=>z6j_ k n s i (some true)) (b:=s.1.length) (p:=fun j=>decide (chk k s (arrN s.1 j).length (z1t_ s.1 j))) (r:=some false) (e:=some true) ?_ ?_ (n:=k) (by omega)
   ·rw [this]
    have e:((List.range s.1.length).all (fun j=>decide (chk k s (arrN s.1 j).length (z1t_ s.1 j)))=true)↔chk k s 0 (arrN s.1 s.1.length):=by
     rw [← zl4_]
     simp only [List.all_eq_true,List.mem_range,decide_eq_true_eq]
    by_cases q:chk k s 0 (arrN s.1 s.1.length)
    ·rw [if_pos (e.2 q),decide_eq_true ⟨hN,q⟩]
    ·rw [if_neg (fun z=>q (e.1 z)),decide_eq_false (fun z=>q z.2)]
   ·intro n j hj
    have hlt:(j:Int)<(s.1.length:Int):=by omega
    have hw:=zj_ (i:=j) (by omega)
    have hg:s.1[j]?=some s.1[j]:=List.getElem?_eq_getElem hj
    have hm:=List.mem_of_getElem? hg
    have h4:=(h.simp _ hm).len4
    have hbl:=zhj_ hg
    have hnx:(arrN s.1 (j+1)).length=(arrN s.1 j).length+(z1t_ s.1 j).length:=by rw [z8a_,List.length_append]
    have hmono:=zvv_ s.1 (show j+1≤s.1.length by omega)
    have haj:=z5k_ h j (by omega)
    have hfl:=zay_ s.1 s.1[j]
    simp only [z6j_,hlt,decide_true,if_true]
    have inner:=z3l_ (L:=fun m i=>zah_ k m s (j:Int) i (fun s_5 k_6=>z6j_ k n s_5 (z0_ (k_6+1)) (some true))) (b:=(z1t_ s.1 j).length) (p:=chk1 k s (arrN s.1 j).length (z1t_ s.1 j)) (r:=some false) (e:=z6j_ k n s ((j+1:Nat):Int) (some true)) ?_ ?_ (n:=k) (by rw [hbl]; split <;> omega)
    ·refine Eq.trans inner ?_
     have e:=zpx_ (k:=k) (s:=s) (o:=(arrN s.1 j).length) (l:=z1t_ s.1 j)
     by_cases q:chk k s (arrN s.1 j).length (z1t_ s.1 j)
     ·rw [if_pos (e.2 q),if_pos (decide_eq_true q)]
     ·rw [if_neg (fun z=>q (e.1 z)),if_neg (by simpa using q)]
    ·intro m i hi
     have h1:1<(s.1[j]).length:=by
      apply Classical.byContradiction
      intro hn
      rw [hbl,if_neg hn] at hi; omega
     rw [if_pos h1] at hbl hfl
     have hil:i<(s.1[j]).length:=by omega
     have hil':(i:Int)<((s.1[j]).length:Int):=by omega
     have h1':(1:Int)<((s.1[j]).length:Int):=by omega
     have hw2:=zj_ (i:=i) (by omega)
     have hml:(arrN s.1 j).length+i<s.2.2.2.length:=by omega
     have hgm:s.2.2.2[(arrN s.1 j).length+i]?=some s.2.2.2[(arrN s.1 j).length+i]:=List.getElem?_eq_getElem hml
     have hcells:=hs.cells _ (List.mem_of_getElem? hgm)
     have hfi:i<(zp_ s.1 s.1[j]).length:=by omega
     have hga:=zpw_ hg hfi
     have hgd:(zp_ s.1 s.1[j])[i]?=some ((zp_ s.1 s.1[j]).getD i 0):=by rw [List.getD_eq_getElem?_getD,List.getElem?_eq_getElem hfi]; rfl
     have hF:((zp_ s.1 s.1[j]).map fun i:Nat=>(i:Int))[i]?=some (((zp_ s.1 s.1[j]).getD i 0:Nat):Int):=by rw [List.getElem?_map,hgd]; rfl
     have hflt:(zp_ s.1 s.1[j]).getD i 0<s.1.length:=zpt_ h hm (List.mem_of_getElem? hgd)
     obtain ⟨s1,_⟩:=z49_ hS hj
     obtain ⟨s2,_⟩:=z49_ hS hflt
     simp only [zah_,zk5_,Int.natCast_nonneg,if_true,Int.toNat_natCast,hg,Option.bind_some,hil',h1',decide_true,zl1_ hk h (show j≤s.1.length by omega) (show i≤4 by omega),hgm,zpu_ hk h hg,List.length_map,hfi,and_self,hF,(zl2_ hk hcells).1,s1,s2,hw2]
     have e:chk1 k s (arrN s.1 j).length (z1t_ s.1 j) i=okA k s (j,i,(zp_ s.1 s.1[j]).getD i 0) s.2.2.2[(arrN s.1 j).length+i]:=by unfold chk1; rw [hga,hgm]
     rw [e]
     unfold okA
     generalize s.2.2.2[(arrN s.1 j).length+i]=mm
     generalize hv:s.2.2.1.getD ((zp_ s.1 s.1[j]).getD i 0) 0=v
     generalize hu:s.2.2.1.getD j 0=u
     clear hv hu
     cases matB k mm
     ·simp
     ·by_cases q1:mm.1=s.2.1
      ·by_cases q2:mm.2.1=u
       ·by_cases q3:mm.2.2.1=v <;> simp [q1,q2,q3]
       ·simp [q1,q2]
      ·simp [q1]
    ·intro m
     have hstop:¬ (((z1t_ s.1 j).length:Int)<((s.1[j]).length:Int)∧(1:Int)<((s.1[j]).length:Int)):=by
      rw [hbl]; split <;> omega
     simp only [zah_,Int.natCast_nonneg,if_true,Int.toNat_natCast,hg,Option.bind_some,hw]
     by_cases q1:((z1t_ s.1 j).length:Int)<((s.1[j]).length:Int)
     ·have q2:¬ (1:Int)<((s.1[j]).length:Int):=fun z=>hstop ⟨q1,z⟩
      rw [decide_eq_true q1,if_pos rfl,decide_eq_false q2,if_neg (by simp)]
     ·rw [decide_eq_false q1,if_neg (by simp)]
   ·intro n
    simp only [z6j_,Int.lt_irrefl,decide_false,Bool.false_eq_true,if_false]
  ·rw [decide_eq_false (show ¬ (s.2.2.2.length:Int)=((arrN s.1 s.1.length).length:Int) by omega),if_pos (by simp),decide_eq_false (fun z=>hN z.1)]
open Classical in
theorem zw0_ {k:Nat} (hk:KK≤k) {s:She} (hs:smallSh s):zf8_ k s=some (sheB k s):=by
 have hK:=zk_
 unfold zf8_ sheB
 obtain ⟨p1,p2,p3⟩:=zl3_ hk s.2.1
 rw [zvr_ hk hs.cx,p2,zvu_ hk hs.cx hs.st]
 cases hcx:cxB s.1 with
 | false=>simp
 | true =>
 cases z6u_ k s.2.1 with
 | false=>simp
 | true =>
 cases hst:stB s.1 s.2.2.1 with
 | false=>simp
 | true =>
  have h:=z6r_.1 hcx
  have hS:=zl0_ hst
  have hcl:=h.len
  have hal:=z5k_ h s.1.length (Nat.le_refl _)
  simp only [Option.bind_some,Bool.not_true,Bool.false_eq_true,if_false,zvw_ hk h,Bool.true_and,List.length_map]
  have:=z3l_ (L:=fun n i=>z9h_ k n ((arrN s.1 s.1.length).length:Int) i ((arrN s.1 s.1.length).map toI3) s (fun q_11 v_12=>some (decide ((List.length q_11:Int)=(List.length v_12.2.2.2:Int))))) (b:=(arrN s.1 s.1.length).length) (p:=chk1 k s 0 (arrN s.1 s.1.length)) (r:=some false) (e:=some (decide ((arrN s.1 s.1.length).length=s.2.2.2.length))) ?_ ?_ (n:=k) (by omega)
  ·rw [this]
   have e:=zpx_ (k:=k) (s:=s) (o:=0) (l:=arrN s.1 s.1.length)
   by_cases q:chk k s 0 (arrN s.1 s.1.length)
   ·rw [if_pos (e.2 q)]
    congr 1
    exact decide_eq_decide.2 ⟨fun z=>⟨z.symm,q⟩,fun z=>z.1.symm⟩
   ·rw [if_neg (fun z=>q (e.1 z)),decide_eq_false (fun z=>q z.2)]
  ·intro n i hi
   have hlt:(i:Int)<((arrN s.1 s.1.length).length:Int):=by omega
   have hw:=zj_ (i:=i) (by omega)
   have hg:(arrN s.1 s.1.length)[i]?=some (arrN s.1 s.1.length)[i]:=List.getElem?_eq_getElem hi
   have hF:((arrN s.1 s.1.length).map toI3)[i]?=some (toI3 (arrN s.1 s.1.length)[i]):=by rw [List.getElem?_map,hg]; rfl
   obtain ⟨a1,a2⟩:=zvy_ h (Nat.le_refl _) hg
   obtain ⟨s1,_⟩:=z49_ hS a1
   obtain ⟨s2,_⟩:=z49_ hS a2
   have hch:chk1 k s 0 (arrN s.1 s.1.length) i=(match s.2.2.2[i]? with | some m=>okA k s (arrN s.1 s.1.length)[i] m | none=>false):=by unfold chk1; rw [hg,Nat.zero_add]
   rw [hch]
   generalize (arrN s.1 s.1.length)[i]=a at hF s1 s2
   simp only [z9h_,List.length_map,hlt,hi,decide_true,if_true,Int.natCast_nonneg,Int.toNat_natCast,and_self,hF,Option.bind_some,hw,toI3]
   by_cases hml:i<s.2.2.2.length
   ·have hgm:s.2.2.2[i]?=some s.2.2.2[i]:=List.getElem?_eq_getElem hml
    have hcells:=hs.cells _ (List.mem_of_getElem? hgm)
    rw [decide_eq_false (by omega),if_neg (by simp),hgm,s1,s2]
    simp only [Option.bind_some,zjm_,(zl2_ hk hcells).2.1]
    show _=if okA k s a s.2.2.2[i]=true then _ else _
    unfold okA
    generalize s.2.2.2[i]=mm
    generalize s.2.2.1.getD a.1 0=u
    generalize s.2.2.1.getD a.2.2 0=v
    cases matB k mm
    ·simp
    ·by_cases q1:mm.1=s.2.1
     ·by_cases q2:mm.2.1=u
      ·by_cases q3:mm.2.2.1=v <;> simp [q1,q2,q3]
      ·simp [q1,q2]
     ·simp [q1]
   ·rw [decide_eq_true (by omega),if_pos rfl,List.getElem?_eq_none (by omega)]
    rfl
  ·intro n
   simp only [z9h_,Int.lt_irrefl,decide_false,Bool.false_eq_true,if_false,List.length_map]
   exact congrArg some (decide_eq_decide.2 (by omega))
def colB (v:List Int) (n p:Int):Bool:=v.all (fun x=>decide (0≤x∧x≤p-1))&&decide ((v.length:Int)=n)
theorem zl5_ {k:Nat} (hk:KK≤k) {v:List Int} (hv:v.length≤1048576) (n:Int) {p:Int} (hp : -1000000≤p∧p≤1000000):z9i_ k v n p=some (colB v n p):=by
 unfold z9i_ z4p_ colB
 simp only [Option.bind_some,zpq_ hk hv hp]
 by_cases c:(v.length:Int)=n
 ·rw [decide_eq_true c,if_pos rfl,Bool.and_true]
 ·rw [decide_eq_false c,if_neg (by simp),Bool.and_false]
theorem z1u_ {k:Nat} (hk:KK≤k) {s:She} (h:sheB k s=true):CxP s.1∧(2≤s.2.1∧s.2.1≤251)∧StP s.1 s.2.2.1:=by
 unfold sheB at h
 simp only [Bool.and_eq_true] at h
 exact ⟨z6r_.1 h.1,(zl3_ hk s.2.1).2.2 h.2.1,zl0_ h.2.2.1⟩
def rowM (cells:List Int) (C r:Nat):List Int:=(cells.drop (r*C)).take C
theorem zw1_ {cells:List Int} {R C r:Nat} (hl:cells.length=R*C) (hr:r<R):(rowM cells C r).length=C:=by
 unfold rowM
 rw [List.length_take,List.length_drop,hl]
 have:(r+1)*C≤R*C:=Nat.mul_le_mul_right _ hr
 rw [Nat.succ_mul] at this
 omega
theorem zw2_ {cells:List Int} {C r c:Nat} (hc:c<C):(rowM cells C r)[c]?=cells[r*C+c]?:=by
 unfold rowM
 rw [List.getElem?_take_of_lt hc,List.getElem?_drop]
theorem zw3_ {a:List Int} (ha:a.length≤1048576):zfm_ a=some a:=by
 have hL:=z1i_
 unfold zfm_
 have h:(([]:List Unit).length+a.length)*8≤LIM:=by simp only [List.length_nil]; omega
 rw [if_pos h]
 cases a with
 | nil=>simp [both]
 | cons x l=>simp
def sumN (f:Nat→Int):Nat→Int
 | 0=>0
 | n+1=>sumN f n+f n
theorem zl6_ {f:Nat→Int} {B:Int} (h:∀ t,0≤f t∧f t≤B):∀ n:Nat,0≤sumN f n∧sumN f n≤(n:Int)*B
 | 0=>by simp [sumN]
 | n+1=>by
  have h1:=zl6_ h n
  have h2:=h n
  have e:((n+1:Nat):Int)*B=(n:Int)*B+B:=by rw [Int.natCast_add,Int.add_mul]; simp
  show 0≤sumN f n+f n∧sumN f n+f n≤_
  rw [e]; omega
theorem zpy_ {R C i j:Nat} (hi:i<R) (hj:j<C):i*C+j<R*C:=by
 have:(i+1)*C≤R*C:=Nat.mul_le_mul_right _ hi
 rw [Nat.succ_mul] at this
 omega
theorem zpz_ {m:Mat} {R C:Nat} (h:MatP m R C) (x:Nat):0≤m.2.2.2.getD x 0∧m.2.2.2.getD x 0≤250:=by
 rw [List.getD_eq_getElem?_getD]
 cases hx:m.2.2.2[x]? with
 | none=>simp
 | some y=>exact h.cells y (List.mem_of_getElem? hx)
theorem zl7_ {m:Mat} {R C:Nat} (h:MatP m R C) {i j:Nat} (hi:i<R) (hj:j<C):m.2.2.2[i*C+j]?=some (m.2.2.2.getD (i*C+j) 0):=by
 have hl:i*C+j<m.2.2.2.length:=by rw [h.len]; exact zpy_ hi hj
 rw [List.getD_eq_getElem?_getD,List.getElem?_eq_getElem hl]; rfl
theorem zcu_ {i C:Nat} (h:i≤32) (hC:C≤32):z0_ ((i:Int)*(C:Int))=((i*C:Nat):Int):=by
 have:i*C≤32*32:=Nat.mul_le_mul h hC
 rw [← Int.natCast_mul,w_id (by omega) (by omega)]
theorem zw4_ {k:Nat} (hk:KK≤k) {a b:List Int} {K:Nat} (ha:a.length=K) (hb:b.length=K) (hK32:K≤32) {p:Int} (hp:2≤p∧p≤251) {f:Nat→Int} (hf:∀ t,0≤f t∧f t≤62500) (hab:∀ t x y,a[t]?=some x→b[t]?=some y→x*y=f t):zfk_ k a b p=some (sumN f K % p):=by
 have hK:=zk_
 unfold zfk_
 have:=z1z_ (A:=Int) (L:=fun n i z=>z9l_ k n a b p z (a.length:Int) i (fun sum_3=>some sum_3)) (I:=fun pre z=>z=sumN f pre.length % p) (G:=fun _ _=>some (sumN f K % p)) a ?_ ?_ k (by omega) 0 (by simp [sumN])
 ·exact this
 ·intro n pre x post z hx hz ih hg hlt
  have hw:=zj_ (i:=pre.length) (by omega)
  have hlb:pre.length<b.length:=by omega
  have hgb:b[pre.length]?=some b[pre.length]:=List.getElem?_eq_getElem hlb
  have hxy:=hab pre.length x _ hg hgb
  have hft:=hf pre.length
  have hz0:0≤z∧z<p:=by rw [hz]; exact ⟨Int.emod_nonneg _ (by omega),Int.emod_lt_of_pos _ (by omega)⟩
  have w1:z0_ (f pre.length)=f pre.length:=w_id (by omega) (by omega)
  have w2:z0_ (z+f pre.length)=z+f pre.length:=w_id (by omega) (by omega)
  have hm:Int.tmod (z+f pre.length) p=sumN f (pre.length+1) % p:=by
   rw [Int.tmod_eq_emod_of_nonneg (by omega),hz]
   show (sumN f pre.length % p+f pre.length) % p=(sumN f pre.length+f pre.length) % p
   rw [Int.emod_add_emod]
  simp only [z9l_,hlt,decide_true,if_true,Int.natCast_nonneg,Int.toNat_natCast,hg,hgb,Option.bind_some,hxy,show ¬ p=0 by omega,if_false,w1,w2,hm,hw]
  exact ih _ (by rw [List.length_append,List.length_singleton])
 ·intro n z hz
  subst hz
  simp only [z9l_,Int.lt_irrefl,decide_false,Bool.false_eq_true,if_false,ha]
theorem zw5_ {m:Mat} {R C:Nat} (h:MatP m R C) (r t:Nat) {x:Int} (hx:(rowM m.2.2.2 C r)[t]?=some x):x=m.2.2.2.getD (r*C+t) 0:=by
 have ht:t<C:=by
  have:=(List.getElem?_eq_some_iff.1 hx).1
  unfold rowM at this
  rw [List.length_take] at this
  omega
 rw [zw2_ ht] at hx
 rw [List.getD_eq_getElem?_getD,hx]; rfl
def stN (s:She) (x:Nat):Nat:=(s.2.2.1.getD x 0).toNat
def mpS (s:She) (j i:Nat):Mat:=s.2.2.2.getD ((arrN s.1 j).length+i) (0,0,0,[])
theorem zw6_ {k:Nat} {s:She} (h:sheB k s=true):s.2.2.2.length=(arrN s.1 s.1.length).length∧chk k s 0 (arrN s.1 s.1.length):=by
 unfold sheB at h
 simp only [Bool.and_eq_true,decide_eq_true_eq] at h
 exact h.2.2.2
theorem zl8_ {k:Nat} (hk:KK≤k) {s:She} (hs:smallSh s) (h:sheB k s=true) {j:Nat} {t:List Int} (hj:s.1[j]?=some t) {i:Nat} (hi:i<(zp_ s.1 t).length) :
  s.2.2.2[(arrN s.1 j).length+i]?=some (mpS s j i)∧MatP (mpS s j i) (stN s j) (stN s ((zp_ s.1 t).getD i 0)):=by
 obtain ⟨hC,hp,hS⟩:=z1u_ hk h
 obtain ⟨_,hch⟩:=zw6_ h
 have hjl:=(List.getElem?_eq_some_iff.1 hj).1
 have hb:=zl4_ (k:=k) (s:=s) s.1.length |>.2 hch j hjl
 obtain ⟨m,h1,h2⟩:=hb i _ (zpw_ hj hi)
 have e:mpS s j i=m:=by unfold mpS; rw [List.getD_eq_getElem?_getD,h1]; rfl
 rw [e]
 refine ⟨h1,?_⟩
 unfold okA at h2
 simp only [Bool.and_eq_true,decide_eq_true_eq] at h2
 obtain ⟨a1,a2,a3,a4⟩:=h2
 obtain ⟨R,C,hm⟩:=(zl2_ hk (hs.cells m (List.mem_of_getElem? h1))).2.2 a1
 have e1:R=stN s j:=by unfold stN; have:=hm.rows; omega
 have e2:C=stN s ((zp_ s.1 t).getD i 0):=by unfold stN; have:=hm.cols; omega
 rw [← e1,← e2]
 exact hm
theorem zw7_ {k:Nat} (hk:KK≤k) {s:She} (hs:smallSh s) (h:sheB k s=true) {j:Nat} {t:List Int} (hj:s.1[j]?=some t) {i:Nat} (hi:i<(zp_ s.1 t).length):z6k_ k s (j:Int) (i:Int)=some (mpS s j i):=by
 obtain ⟨hC,_,_⟩:=z1u_ hk h
 have hjl:=(List.getElem?_eq_some_iff.1 hj).1
 have h4:=(hC.simp t (List.mem_of_getElem? hj)).len4
 have hfl:=zay_ s.1 t
 have hi4:i≤4:=by rw [hfl] at hi; split at hi <;> omega
 unfold z6k_
 rw [zl1_ hk hC (by omega) hi4]
 simp only [Option.bind_some,Int.natCast_nonneg,if_true,Int.toNat_natCast,(zl8_ hk hs h hj hi).1]
theorem zw8_ {k:Nat} (hk:KK≤k) {s:She} (h:CxP s.1) {j:Nat} (hj:j≤s.1.length):zff_ k s (j:Int)=some ((arrN s.1 j).length:Int):=by
 have hK:=zk_
 have hcl:=h.len
 unfold zff_
 rw [if_pos ⟨by omega,by omega,by omega⟩,Int.toNat_natCast]
 have htl:(s.1.take j).length=j:=by rw [List.length_take]; omega
 refine z1z_ (A:=Int) (L:=fun n i z=>z6e_ k n z (s.1.take j) ((s.1.take j).length:Int) i (fun n_3=>some n_3)) (I:=fun pre z=>z=((arrN s.1 pre.length).length:Int)) (G:=fun _ _=>some ((arrN s.1 j).length:Int)) (s.1.take j) ?_ ?_ k (by omega) 0 (by simp [arrN])
 ·intro n pre x post z hx hz ih hg hlt
  have hpl:pre.length<j:=by omega
  have hw:=zj_ (i:=pre.length) (by omega)
  have hgc:s.1[pre.length]?=some x:=by rw [List.getElem?_take_of_lt hpl] at hg; exact hg
  have h4:=(h.simp _ (List.mem_of_getElem? hgc)).len4
  have hal:=z5k_ h pre.length (by omega)
  have hnx:(arrN s.1 (pre.length+1)).length=(arrN s.1 pre.length).length+(if 1<x.length then x.length else 0):=by rw [z8a_,List.length_append,zhj_ hgc]
  simp only [z6e_,hlt,decide_true,if_true,Int.natCast_nonneg,Int.toNat_natCast,hg,Option.bind_some,hw]
  by_cases c1:1<x.length
  ·have hwz:z0_ (z+(x.length:Int))=z+(x.length:Int):=w_id (by omega) (by omega)
   rw [decide_eq_true (by omega),if_pos rfl]
   show z6e_ k n (z0_ (z+(x.length:Int))) _ _ _ _=_
   rw [hwz]
   refine ih _ ?_
   rw [if_pos c1] at hnx
   rw [List.length_append,List.length_singleton,hnx,hz]; rfl
  ·rw [decide_eq_false (by omega),if_neg (by simp)]
   refine ih _ ?_
   rw [if_neg c1] at hnx
   rw [List.length_append,List.length_singleton,hnx,hz]; rfl
 ·intro n z hz
  rw [htl] at hz
  simp only [z6e_,Int.lt_irrefl,decide_false,Bool.false_eq_true,if_false,hz]
theorem zw9_ {k:Nat} (hk:KK≤k) {s:She} (hs:smallSh s) (h:sheB k s=true) {j:Nat} {t:List Int} (hj:s.1[j]?=some t) {i:Nat} (hi:i<(zp_ s.1 t).length):zfg_ k s (j:Int) (i:Int)=some (mpS s j i):=by
 obtain ⟨hC,_,_⟩:=z1u_ hk h
 have hjl:=(List.getElem?_eq_some_iff.1 hj).1
 have hcl:=hC.len
 have hal:=z5k_ hC j (by omega)
 have h4:=(hC.simp t (List.mem_of_getElem? hj)).len4
 have hfl:=zay_ s.1 t
 have hi4:i≤4:=by rw [hfl] at hi; split at hi <;> omega
 have hw:z0_ (((arrN s.1 j).length:Int)+(i:Int))=(((arrN s.1 j).length+i:Nat):Int):=by rw [w_id (by omega) (by omega)]; omega
 unfold zfg_
 rw [zw8_ hk hC (by omega)]
 simp only [Option.bind_some,hw,Int.natCast_nonneg,if_true,Int.toNat_natCast,(zl8_ hk hs h hj hi).1]
abbrev Edg:=Int×Int×Int
def z8b_ (a b:Edg):Bool:=decide (a.1<b.1∨(a.1=b.1∧a.2.1<b.2.1))
def zaz_ (l:List Edg) (i:Nat) (e:Edg):Bool:=if 0<i then (match l[i-1]? with | some z=>z8b_ z e | none=>false) else true
theorem zq0_ (a b:Edg):decide (0≤(if cI a.1 b.1=0 then cI a.2.1 b.2.1 else cI a.1 b.1))=!z8b_ a b:=by
 unfold z8b_ cI
 rw [← decide_not]
 refine decide_eq_decide.2 ?_
 by_cases h1:a.1<b.1
 ·simp [h1]
 ·by_cases h2:b.1<a.1
  ·have:¬ a.1=b.1:=by omega
   simp [h1,h2,this]
  ·have e:a.1=b.1:=by omega
   by_cases h3:a.2.1<b.2.1
   ·simp [e,h3]
   ·by_cases h4:b.2.1<a.2.1 <;> simp [e,h3,h4]
abbrev Net:=Int×Int×Int×List Edg
def arcB (n:Net) (i:Nat):Bool:=match n.2.2.2[i]? with
 | some a=>decide (0≤a.1∧a.1≤z0_ (n.1-1))&&(decide (0≤a.2.1∧a.2.1≤z0_ (n.1-1))&&(!decide (a.1=a.2.1)&&(decide (0≤a.2.2∧a.2.2≤1000000)&&zaz_ n.2.2.2 i a)))
 | none=>false
def netB (n:Net):Bool:=decide (2≤n.1∧n.1≤12)&&(decide (0≤n.2.1∧n.2.1≤z0_ (n.1-1))&&(decide (0≤n.2.2.1∧n.2.2.1≤z0_ (n.1-1))&&(!decide (n.2.1=n.2.2.1)&&((List.range n.2.2.2.length).all (arcB n)&&decide (n.2.2.2.length≤24)))))
theorem zwa_ {k:Nat} (hk:KK≤k) {n:Net} (hn:n.2.2.2.length≤1048576):zgn_ k n=some (netB n):=by
 have hK:=zk_
 have hl:z5f_ k k n 0 (fun n_11=>some (decide ((List.length n_11.2.2.2:Int)≤24)))=if (List.range n.2.2.2.length).all (arcB n)=true then some (decide ((n.2.2.2.length:Int)≤24)) else some false:=by
  refine z3l_ (L:=fun m i=>z5f_ k m n i (fun n_11=>some (decide ((List.length n_11.2.2.2:Int)≤24)))) (b:=n.2.2.2.length) (p:=arcB n) (r:=some false) ?_ ?_ (n:=k) (by omega)
  ·intro m i hi
   have hlt:(i:Int)<(n.2.2.2.length:Int):=by omega
   have hw:=zj_ (i:=i) (by omega)
   have hg:n.2.2.2[i]?=some n.2.2.2[i]:=List.getElem?_eq_getElem hi
   simp only [z5f_,hlt,decide_true,if_true,Int.natCast_nonneg,Int.toNat_natCast,hg,Option.bind_some,hw,z4q_,arcB,zaz_]
   generalize n.2.2.2[i]=a
   by_cases c1:0≤a.1∧a.1≤z0_ (n.1-1)
   case neg=>simp [c1]
   by_cases c2:0≤a.2.1∧a.2.1≤z0_ (n.1-1)
   case neg=>simp [c1,c2]
   by_cases c3:a.1=a.2.1
   ·simp only [c3,decide_true] at *; simp [c2]
   by_cases c4:0≤a.2.2∧a.2.2≤1000000
   case neg=>simp [c1,c2,c3,c4]
   rw [decide_eq_true c1,decide_eq_true c2,decide_eq_false c3,decide_eq_true c4]
   simp only [Bool.not_true,Bool.not_false,Bool.false_eq_true,if_false,Bool.true_and]
   by_cases h0:0<i
   ·have h0':(0:Int)<(i:Int):=by omega
    have hw1:z0_ ((i:Int)-1)=((i-1:Nat):Int):=by rw [w_id (by omega) (by omega)]; omega
    have hg1:n.2.2.2[i-1]?=some n.2.2.2[i-1]:=List.getElem?_eq_getElem (by omega)
    simp only [h0',h0,decide_true,if_true,hw1,Int.natCast_nonneg,Int.toNat_natCast,hg1,Option.bind_some]
    generalize n.2.2.2[i-1]=t
    unfold z8b_
    by_cases d1:a.1<t.1
    ·have:¬ (t.1<a.1∨t.1=a.1∧t.2.1<a.2.1):=by omega
     rw [decide_eq_true d1,if_pos rfl,decide_eq_false this,if_neg (by simp)]
    ·rw [decide_eq_false d1,if_neg (by simp)]
     by_cases d2:t.1=a.1
     ·rw [decide_eq_true d2,if_pos rfl]
      by_cases d3:a.2.1≤t.2.1
      ·have:¬ (t.1<a.1∨t.1=a.1∧t.2.1<a.2.1):=by omega
       rw [decide_eq_true d3,if_pos rfl,decide_eq_false this,if_neg (by simp)]
      ·have:(t.1<a.1∨t.1=a.1∧t.2.1<a.2.1):=by omega
       rw [decide_eq_false d3,if_neg (by simp),decide_eq_true this,if_pos rfl]
     ·have:(t.1<a.1∨t.1=a.1∧t.2.1<a.2.1):=by omega
      rw [decide_eq_false d2,if_neg (by simp),decide_eq_true this,if_pos rfl]
   ·have h0':¬ (0:Int)<(i:Int):=by omega
    simp [h0,h0']
  ·intro m
   simp only [z5f_,Int.lt_irrefl,decide_false,Bool.false_eq_true,if_false]
 have e2:decide ((n.2.2.2.length:Int)≤24)=decide (n.2.2.2.length≤24):=decide_eq_decide.2 (by omega)
 unfold zgn_ netB
 rw [hl,e2]
 simp only [z4q_,Option.bind_some]
 by_cases c1:2≤n.1∧n.1≤12
 case neg=>simp [c1]
 by_cases c2:0≤n.2.1∧n.2.1≤z0_ (n.1-1)
 case neg=>simp [c1,c2]
 by_cases c3:0≤n.2.2.1∧n.2.2.1≤z0_ (n.1-1)
 case neg=>simp [c1,c2,c3]
 rw [decide_eq_true c1,decide_eq_true c2,decide_eq_true c3]
 cases decide (n.2.1=n.2.2.1) <;> cases (List.range n.2.2.2.length).all (arcB n) <;> simp
theorem zwb_ {k:Nat} (hk:KK≤k) {n:Net} (hn:n.2.2.2.length≤1048576):zfb_ k n=some (netB n):=by
 have hK:=zk_
 have e2:decide ((n.2.2.2.length:Int)≤24)=decide (n.2.2.2.length≤24):=decide_eq_decide.2 (by omega)
 have hE:((z2e_ n.1 2 12).bind fun r_11=>(if r_11=true then (z3m_ n.2.1 n.1).bind fun r_12=>(if r_12=true then (z3m_ n.2.2.1 n.1).bind fun r_13=>(if r_13=true then (if (!(decide (n.2.1=n.2.2.1)))=true then some (decide ((List.length n.2.2.2:Int)≤24)) else some false) else some false) else some false) else some false))=some (decide (2≤n.1∧n.1≤12)&&(decide (0≤n.2.1∧n.2.1≤z0_ (n.1-1))&&(decide (0≤n.2.2.1∧n.2.2.1≤z0_ (n.1-1))&&(!decide (n.2.1=n.2.2.1)&&decide (n.2.2.2.length≤24))))):=by
  unfold z3m_
  simp only [z47_,Option.bind_some,e2]
  by_cases c1:2≤n.1∧n.1≤12
  case neg=>simp [c1]
  by_cases c2:0≤n.2.1∧n.2.1≤z0_ (n.1-1)
  case neg=>simp [c1,c2]
  by_cases c3:0≤n.2.2.1∧n.2.2.1≤z0_ (n.1-1)
  case neg=>simp [c1,c2,c3]
  rw [decide_eq_true c1,decide_eq_true c2,decide_eq_true c3]
  cases decide (n.2.1=n.2.2.1) <;> simp
 unfold zfb_
 have hl:∀ E:Net→Option Bool,z69_ k k n.2.2.2 (n.2.2.2.length:Int) 0 n E=if (List.range n.2.2.2.length).all (arcB n)=true then E n else some false:=by
  intro E
  refine z3l_ (L:=fun m i=>z69_ k m n.2.2.2 (n.2.2.2.length:Int) i n E) (b:=n.2.2.2.length) (p:=arcB n) (r:=some false) ?_ ?_ (n:=k) (by omega)
  ·intro m i hi
   have hlt:(i:Int)<(n.2.2.2.length:Int):=by omega
   have hw:=zj_ (i:=i) (by omega)
   have hg:n.2.2.2[i]?=some n.2.2.2[i]:=List.getElem?_eq_getElem hi
   simp only [z69_,z3m_,hlt,decide_true,if_true,Int.natCast_nonneg,Int.toNat_natCast,hg,Option.bind_some,hw,z47_,arcB,zaz_]
   generalize n.2.2.2[i]=a
   by_cases c1:0≤a.1∧a.1≤z0_ (n.1-1)
   case neg=>simp [c1]
   by_cases c2:0≤a.2.1∧a.2.1≤z0_ (n.1-1)
   case neg=>simp [c1,c2]
   by_cases c3:a.1=a.2.1
   ·simp only [c3,decide_true] at *; simp [c2]
   by_cases c4:0≤a.2.2∧a.2.2≤1000000
   case neg=>simp [c1,c2,c3,c4]
   rw [decide_eq_true c1,decide_eq_true c2,decide_eq_false c3,decide_eq_true c4]
   simp only [Bool.not_true,Bool.not_false,Bool.false_eq_true,if_false,Bool.true_and]
   by_cases h0:0<i
   ·have h0':(0:Int)<(i:Int):=by omega
    have hw1:z0_ ((i:Int)-1)=((i-1:Nat):Int):=by rw [w_id (by omega) (by omega)]; omega
    have hg1:n.2.2.2[i-1]?=some n.2.2.2[i-1]:=List.getElem?_eq_getElem (by omega)
    simp only [h0',h0,decide_true,if_true,hw1,Int.natCast_nonneg,Int.toNat_natCast,hg1,Option.bind_some,zkw_,zkx_ hk,zq0_]
    generalize n.2.2.2[i-1]=t
    cases z8b_ t a <;> simp
   ·have h0':¬ (0:Int)<(i:Int):=by omega
    simp [h0,h0']
  ·intro m
   simp only [z69_,Int.lt_irrefl,decide_false,Bool.false_eq_true,if_false]
 rw [hl,hE]
 unfold netB
 cases (List.range n.2.2.2.length).all (arcB n) <;> simp
theorem zq1_ {d:Nat} (h:d<10):z_u8 (UInt8.ofNat (48+d))=((48+d:Nat):Int):=by
 have:(UInt8.ofNat (48+d)).toNat=48+d:=by simp [UInt8.toNat_ofNat']; omega
 show ((UInt8.ofNat (48+d)).toNat:Int)=_
 rw [this]
theorem zl9_ {d:Nat} (h:d<10):w_u8 (z0_ (48+(d:Int)))=((48+d:Nat):Int):=by
 rw [w_id (by omega) (by omega)]
 unfold w_u8 IntKind.wrap
 simp [IntKind.bits,IntKind.signed]; omega
def revD (u:Nat):List Int:=if u=0 then [] else ((Lib.decDigits u).map z_u8).reverse
theorem zhk_ {u:Nat} (h:u≠0):revD u=((48+u % 10:Nat):Int)::revD (u / 10):=by
 unfold revD
 rw [if_neg h]
 by_cases h1:u<10
 ·rw [Lib.decDigits,dif_pos h1,if_pos (by omega)]
  have:=zq1_ h1
  rw [Nat.mod_eq_of_lt h1,List.map_cons,List.map_nil,this]
  rfl
 ·rw [Lib.decDigits,dif_neg h1,if_neg (by omega)]
  have:=zq1_ (d:=u % 10) (by omega)
  rw [List.map_append,List.map_cons,List.map_nil,this,List.reverse_append]
  rfl
theorem zla_:∀ (j u:Nat),u<10 ^ j→(revD u).length≤j
 | 0,u,h=>by
  have:u=0:=by simpa using h
  subst this; simp [revD]
 | j+1,u,h=>by
  by_cases h0:u=0
  ·subst h0; simp [revD]
  ·rw [zhk_ h0,List.length_cons]
   have:=zla_ j (u / 10) (by rw [Nat.pow_succ] at h; omega)
   omega
theorem zlb_ {k:Nat} {n0:Int} {E:Int→List Int→Option (List UInt8)}:∀ (j u n:Nat) (m:Int) (q:List Int),(m=(u:Int)∨m = -(u:Int))→u<10 ^ j→u≤9223372036854775808 → -9223372036854775808≤m→m≤9223372036854775807→q.length+j≤100→j<n→z5h_ k n n0 m q E=E n0 (q++revD u)
 | j,u,0,m,q,_,_,_,_,_,_,h=>by omega
 | 0,u,n+1,m,q,hm,hu,_,_,_,_,_=>by
  have h0:u=0:=by simpa using hu
  subst h0
  have hm0:m=0:=by omega
  subst hm0
  simp [z5h_,revD]
 | j+1,u,n+1,m,q,hm,hu,hub,hm1,hm2,hq,hn=>by
  have hL:=z1i_
  by_cases h0:u=0
  ·subst h0
   have hm0:m=0:=by omega
   subst hm0
   simp [z5h_,revD]
  ·have hm0:¬ m=0:=by omega
   have hlim:(q.length+1)*1≤LIM:=by omega
   have hd:u % 10<10:=by omega
   have hj:u / 10<10 ^ j:=by rw [Nat.pow_succ] at hu; omega
   rcases hm with hm | hm
   ·subst hm
    have t1:Int.tmod (u:Int) 10=((u % 10:Nat):Int):=by rw [Int.tmod_eq_emod_of_nonneg (by omega)]; omega
    have t2:Int.tdiv (u:Int) 10=((u / 10:Nat):Int):=by rw [Int.tdiv_eq_ediv_of_nonneg (by omega)]; omega
    have w2:z0_ ((u / 10:Nat):Int)=((u / 10:Nat):Int):=w_id (by omega) (by omega)
    have hlt:¬ (((u % 10:Nat):Int)<0):=by omega
    have ih:=zlb_ (k:=k) (n0:=n0) (E:=E) j (u / 10) n ((u / 10:Nat):Int) (q++[((48+u % 10:Nat):Int)]) (.inl rfl) hj (by omega) (by omega) (by omega) (by simp; omega) (by omega)
    unfold z5h_
    rw [decide_eq_false hm0,if_pos (by rfl),t1,t2,decide_eq_false hlt,if_neg (by simp),zl9_ hd,w2,List.length_singleton,if_pos hlim,ih,List.append_assoc,zhk_ h0]
    rfl
   ·subst hm
    have t1:Int.tmod (-(u:Int)) 10 = -((u % 10:Nat):Int):=by rw [Int.neg_tmod,Int.tmod_eq_emod_of_nonneg (by omega)]; omega
    have t2:Int.tdiv (-(u:Int)) 10 = -((u / 10:Nat):Int):=by rw [Int.neg_tdiv,Int.tdiv_eq_ediv_of_nonneg (by omega)]; omega
    have w2:z0_ (-((u / 10:Nat):Int)) = -((u / 10:Nat):Int):=w_id (by omega) (by omega)
    have ih:=zlb_ (k:=k) (n0:=n0) (E:=E) j (u / 10) n (-((u / 10:Nat):Int)) (q++[((48+u % 10:Nat):Int)]) (.inr rfl) hj (by omega) (by omega) (by omega) (by simp; omega) (by omega)
    unfold z5h_
    rw [decide_eq_false hm0,if_pos (by rfl),t1,t2,w2]
    by_cases hz:u % 10=0
    ·have hlt:¬ (-((u % 10:Nat):Int)<0):=by omega
     have hw:w_u8 (z0_ (48 + -((u % 10:Nat):Int)))=((48+u % 10:Nat):Int):=by
      rw [hz]
      exact zl9_ (d:=0) (by omega)
     rw [decide_eq_false hlt,if_neg (by simp),hw,List.length_singleton,if_pos hlim,ih,List.append_assoc,zhk_ h0]
     rfl
    ·have hlt : -((u % 10:Nat):Int)<0:=by omega
     have hw:w_u8 (z0_ (48+z0_ (0 - -((u % 10:Nat):Int))))=((48+u % 10:Nat):Int):=by
      rw [show (0:Int) - -((u % 10:Nat):Int)=((u % 10:Nat):Int) by omega,w_id (x:=((u % 10:Nat):Int)) (by omega) (by omega)]
      exact zl9_ hd
     rw [decide_eq_true hlt,if_pos rfl,hw,List.length_singleton,if_pos hlim,ih,List.append_assoc,zhk_ h0]
     rfl
theorem zlc_ {k:Nat} {q:List Int} (hq:q.length≤1000) {E:List Int→Option (List UInt8)}:∀ (j n:Nat) (acc:List Int),j≤q.length→acc.length+j≤1000→j<n→z7v_ k n ((j:Int)-1) q acc E=E (acc++(q.take j).reverse)
 | j,0,_,_,_,h=>by omega
 | 0,n+1,acc,_,_,_=>by
  have:¬ (0≤((0:Nat):Int)-1):=by omega
  simp only [z7v_,this,decide_false,Bool.false_eq_true,if_false,List.take_zero,List.reverse_nil,List.append_nil]
 | j+1,n+1,acc,hj,ha,hn=>by
  have hL:=z1i_
  have e0:((j+1:Nat):Int)-1=(j:Int):=by omega
  have hjl:j<q.length:=by omega
  have ew:z0_ ((j:Int)-1)=(j:Int)-1:=w_id (by omega) (by omega)
  have hlim:(acc.length+1)*1≤LIM:=by omega
  have ih:=zlc_ (k:=k) hq (E:=E) j n (acc++[q[j]]) (by omega) (by simp; omega) (by omega)
  rw [e0]
  simp only [z7v_,Int.natCast_nonneg,decide_true,if_true,Int.toNat_natCast,hjl,and_self,List.getElem?_eq_getElem hjl,Option.bind_some,List.length_singleton,hlim,ew,ih]
  rw [List.take_succ_eq_append_getElem hjl,List.reverse_append]
  simp
theorem zq2_ (l:List UInt8):to_S (l.map z_u8)=l:=by
 unfold to_S
 rw [List.map_map]
 have:((fun x:Int=>x.toNat.toUInt8) ∘ z_u8)=id:=by
  funext b
  simp [z_u8]
 simp [this]
theorem zwc_ {k:Nat} (hk:KK≤k) {n:Int} (h1 : -9223372036854775808≤n) (h2:n≤9223372036854775807):zai_ k n=some (Lib.itoa n):=by
 have hK:=zk_
 have hL:=z1i_
 unfold zai_ Lib.itoa
 by_cases h0:n=0
 ·subst h0
  rw [decide_eq_true rfl,if_pos rfl,if_neg (by omega)]
  rw [show (0:Int).toNat=0 from rfl,Lib.decDigits,dif_pos (by omega)]
  rfl
 ·have hp:n.natAbs<10 ^ 19:=by
   have:n.natAbs≤9223372036854775808:=by omega
   exact Nat.lt_of_le_of_lt this (by decide)
  have hl:=zla_ 19 n.natAbs hp
  have hu:n.natAbs≠0:=by omega
  have hr:revD n.natAbs=((Lib.decDigits n.natAbs).map z_u8).reverse:=by unfold revD; rw [if_neg hu]
  rw [decide_eq_false h0,if_neg (by simp),zlb_ 19 n.natAbs k n [] (by omega) hp (by omega) h1 h2 (by simp) (by omega),List.nil_append]
  by_cases hn:n<0
  ·have hl1:((revD n.natAbs).length+1)*1≤LIM:=by omega
   have hb:=zlc_ (k:=k) (q:=revD n.natAbs++[45]) (by simp; omega) (E:=fun q=>some (to_S q)) (revD n.natAbs++[45]).length k [] (Nat.le_refl _) (by simp; omega) (by simp; omega)
   have hw:z0_ (((revD n.natAbs++[45]).length:Int)-1)=((revD n.natAbs++[45]).length:Int)-1:=w_id (by omega) (by simp; omega)
   rw [decide_eq_true hn,if_pos rfl,if_pos hn,List.length_singleton,if_pos hl1,hw,hb,List.take_length,List.nil_append,hr]
   congr 1
   have e:(((Lib.decDigits n.natAbs).map z_u8).reverse++[(45:Int)]).reverse=((45:UInt8)::Lib.decDigits n.natAbs).map z_u8:=by
    rw [List.reverse_append,List.reverse_reverse]; rfl
   rw [e,zq2_]
  ·have hb:=zlc_ (k:=k) (q:=revD n.natAbs) (by omega) (E:=fun q=>some (to_S q)) (revD n.natAbs).length k [] (Nat.le_refl _) (by simp; omega) (by omega)
   have hw:z0_ (((revD n.natAbs).length:Int)-1)=((revD n.natAbs).length:Int)-1:=w_id (by omega) (by omega)
   have hna:n.natAbs=n.toNat:=by omega
   rw [decide_eq_false hn,if_neg (by simp),if_neg hn,hw,hb,List.take_length,List.nil_append,hr,List.reverse_reverse,zq2_,hna]
theorem zwd_ {n:Int} (h1 : -9223372036854775808≤n) (h2:n≤9223372036854775807):zfq_ n=some (Lib.itoa n):=by
 unfold zfq_ zot_
 rw [if_pos ⟨rfl,h1,h2⟩]; rfl
def sumL {α:Type} (f:α→Nat) (l:List α):Nat:=(l.map f).sum
theorem z8c_ {α:Type} (f:α→Nat):sumL f []=0:=rfl
theorem z3o_ {α:Type} (f:α→Nat) (x:α) (l:List α):sumL f (x::l)=f x+sumL f l:=by simp [sumL]
theorem zhl_ {α:Type} (f:α→Nat) (l m:List α):sumL f (l++m)=sumL f l+sumL f m:=by simp [sumL]
theorem z5l_ {α:Type} (f:α→Nat) {x:α} {l:List α} (h:x∈l):f x≤sumL f l:=by
 induction l with
 | nil=>cases h
 | cons y l ih =>
  rw [z3o_]
  rcases List.mem_cons.1 h with rfl | h
  ·omega
  ·have:=ih h; omega
theorem zq3_ {α:Type} (xs:List α) {s:α→Nat} {L:Nat→Int→Int→Option Int}
  (h1:∀ n (i:Nat) x r,xs[i]?=some x→(i:Int)<xs.length→x∈xs→0≤r→r≤1048576→L (n+1) (i:Int) r=if (s x:Int)≤r then L n ((i+1:Nat):Int) (r-(s x:Int)) else some (-1))
  (h2:∀ n r,L (n+1) (xs.length:Int) r=some r) {n:Nat} (hn:xs.length<n) {r:Int} (h0:0≤r) (hr:r≤1048576):L n 0 r=some (if (sumL s xs:Int)≤r then r-(sumL s xs:Int) else -1):=by
 refine z1z_ (L:=L) (I:=fun _ r=>0≤r∧r≤1048576) (G:=fun post r=>some (if (sumL s post:Int)≤r then r-(sumL s post:Int) else -1)) xs ?_ ?_ n hn r ⟨h0,hr⟩
 ·intro n pre x post r hx hI ih hg hlt
  rw [h1 n pre.length x r hg hlt (List.mem_of_getElem? hg) hI.1 hI.2]
  have hc:sumL s (x::post)=s x+sumL s post:=z3o_ _ _ _
  by_cases c:(s x:Int)≤r
  ·rw [if_pos c,ih (r-(s x:Int)) ⟨by omega,by omega⟩]
   by_cases c2:(sumL s post:Int)≤r-(s x:Int)
   ·rw [if_pos c2,if_pos (by omega)]; congr 1; omega
   ·rw [if_neg c2,if_neg (by omega)]
  ·rw [if_neg c,if_neg (by omega)]
 ·intro n r hI
  rw [h2,z8c_,if_pos (by simpa using hI.1)]; simp
theorem zwe_ {k:Nat} (hk:KK≤k) {n:Int} (h:n≤9223372036854775807):∃ t,z5c_ k n=some t:=by
 unfold z5c_
 by_cases h0:n≤0
 ·exact ⟨[109,48],by simp [h0]⟩
 ·simp only [decide_eq_true_eq,h0,if_false]
  have key:∀ (m:Nat) (n:Int) (out:List UInt8),0≤n→n<10 ^ m→n≤9223372036854775807→out.length+m≤100→∀ q,m<q→∃ t,z7n_ k q n out (fun out_1=>(if [109].length+out_1.length≤9223372036854775807 then some ([109]++out_1) else none))=some t:=by
   intro m
   induction m with
   | zero =>
    intro n out h1 h2 h3 h4 q hq
    obtain ⟨q,rfl⟩:∃ p,q=p+1:=⟨q-1,by omega⟩
    have:¬ 0<n:=by simp at h2; omega
    have h5:1+out.length≤9223372036854775807:=by omega
    exact ⟨[109]++out,by simp only [z7n_,decide_eq_true_eq,this,if_false,List.length_singleton,h5,if_true]⟩
   | succ m ih =>
    intro n out h1 h2 h3 h4 q hq
    obtain ⟨q,rfl⟩:∃ p,q=p+1:=⟨q-1,by omega⟩
    by_cases hn:0<n
    ·have hd:Int.tdiv n 10=n / 10:=Int.tdiv_eq_ediv_of_nonneg h1
     have hw:z0_ (Int.tdiv n 10)=n / 10:=by rw [hd,w_id (by omega) (by omega)]
     have h5:1+out.length≤9223372036854775807:=by omega
     have h6:n / 10<10 ^ m:=by
      rw [Int.pow_succ] at h2
      omega
     obtain ⟨t,ht⟩:=ih (n / 10) ((to_S [(w_u8 ((z0_ (48+(Int.tmod n 10)))))])++out) (by omega) h6 (by omega) (by simp; omega) q (by omega)
     refine ⟨t,?_⟩
     simp only [z7n_,decide_eq_true_eq,hn,if_true,hw]
     rw [if_pos (by simp; omega)]
     exact ht
    ·have h5:1+out.length≤9223372036854775807:=by omega
     exact ⟨[109]++out,by simp only [z7n_,decide_eq_true_eq,hn,if_false,List.length_singleton,h5,if_true]⟩
  exact key 20 n [] (by omega) (by omega) h (by simp) k (by have:=zk_; omega)
noncomputable def tM (k:Nat) (m:Int):List UInt8:=(z5c_ k m).getD []
theorem zhm_ {k:Nat} (hk:KK≤k) {m:Int} (h:m≤9223372036854775807):z5c_ k m=some (tM k m):=by
 obtain ⟨t,ht⟩:=zwe_ hk h
 unfold tM
 rw [ht]; rfl
def mkL {α:Type} (f:α→Int→α×Int):List α→Int→List α×Int
 | [],m=>([],m)
 | x::l,m=>((f x m).1::(mkL f l (f x m).2).1,(mkL f l (f x m).2).2)
theorem zb0_ {α:Type} (f:α→Int→α×Int):∀ (l:List α) (m:Int),(mkL f l m).1.length=l.length
 | [],_=>rfl
 | x::l,m=>by simp [mkL,zb0_ f l]
theorem zld_ {α:Type} {f:α→Int→α×Int} {c:α→Nat} (hc:∀ x m,(f x m).2=m+(c x:Int)):∀ (l:List α) (m:Int),(mkL f l m).2=m+(sumL c l:Int)
 | [],m=>by simp [mkL,z8c_]
 | x::l,m=>by
  have h1:=z3o_ c x l
  show (mkL f l (f x m).2).2=_
  rw [zld_ hc l,hc]; omega
theorem zle_ {α:Type} {f:α→Int→α×Int}:∀ (l r:List α) (m:Int),(mkL f (l++r) m).1=(mkL f l m).1++(mkL f r (mkL f l m).2).1
 | [],r,m=>rfl
 | x::l,r,m=>by simp [mkL,zle_ l r]
theorem z6v_ {α Q R:Type} {f:α→Int→α×Int} {c:α→Nat} (hc:∀ x m,(f x m).2=m+(c x:Int)) (xs:List α) {m0 B:Int} (hB:m0+(sumL c xs:Int)≤B) {S:List α→Q} {L:Nat→Int→Int→Q→R} {G:R}
  (h1:∀ n (i:Nat) m l y,l.length=xs.length→l[i]?=some y→y∈xs→m0≤m→m+(c y:Int)≤B→(i:Int)<l.length→i<l.length→L (n+1) m (i:Int) (S l)=L n (m+(c y:Int)) ((i+1:Nat):Int) (S (l.set i (f y m).1)))
  (h2:∀ n l,l=(mkL f xs m0).1→l.length=xs.length→L (n+1) (m0+(sumL c xs:Int)) (xs.length:Int) (S l)=G) {n:Nat} (hn:xs.length<n):L n m0 0 (S xs)=G:=by
 have main:∀ (post pre:List α) (n:Nat),xs=pre++post→post.length<n→L n (m0+(sumL c pre:Int)) (pre.length:Int) (S ((mkL f pre m0).1++post))=G:=by
  intro post
  induction post with
  | nil =>
   intro pre n hx hn
   obtain ⟨m,rfl⟩:∃ m,n=m+1:=⟨n-1,by simp at hn; omega⟩
   rw [List.append_nil] at hx ⊢
   subst hx
   exact h2 m _ rfl (zb0_ f _ _)
  | cons x post ih =>
   intro pre n hx hn
   obtain ⟨m,rfl⟩:∃ m,n=m+1:=⟨n-1,by simp at hn; omega⟩
   have hl:(mkL f pre m0).1.length=pre.length:=zb0_ f _ _
   have hs:sumL c xs=sumL c pre+(c x+sumL c post):=by rw [hx,zhl_,z3o_]
   rw [h1 m pre.length (m0+(sumL c pre:Int)) ((mkL f pre m0).1++x::post) x (by rw [hx]; simp [hl]) (by rw [List.getElem?_append_right (by omega),hl]; simp) (by rw [hx]; simp) (by omega) (by omega) (by simp [hl]; omega) (by simp [hl])]
   have:=ih (pre++[x]) m (by rw [hx]; simp) (by simp at hn; omega)
   have e1:((mkL f pre m0).1++x::post).set pre.length (f x (m0+(sumL c pre:Int))).1=(mkL f (pre++[x]) m0).1++post:=by
    rw [List.set_append_right _ _ (by omega),hl,Nat.sub_self,List.set_cons_zero,zle_,zld_ hc]
    simp [mkL]
   have e2:m0+(sumL c pre:Int)+(c x:Int)=m0+(sumL c (pre++[x]):Int):=by rw [zhl_,z3o_,z8c_]; omega
   rw [e1,e2]
   rw [List.length_append] at this
   simpa using this
 have:=main xs [] n rfl hn
 simpa [z8c_,mkL] using this
theorem zwf_ {α R:Type} {f:α→Int→α×Int} {c:α→Nat} (hc:∀ x m,(f x m).2=m+(c x:Int)) (xs:List α) {m0 B:Int} (hB:m0+(sumL c xs:Int)≤B) {L:Nat→Int→Int→R} {G:R}
  (h1:∀ n (i:Nat) m y,(mkL f xs m0).1[i]?=some (f y m).1→y∈xs→m0≤m→m+(c y:Int)≤B→(i:Int)<(mkL f xs m0).1.length→i<(mkL f xs m0).1.length→L (n+1) m (i:Int)=L n (m+(c y:Int)) ((i+1:Nat):Int))
  (h2:∀ n,L (n+1) (m0+(sumL c xs:Int)) ((mkL f xs m0).1.length:Int)=G) {n:Nat} (hn:xs.length<n):L n m0 0=G:=by
 have hlen:(mkL f xs m0).1.length=xs.length:=zb0_ f _ _
 have main:∀ (post pre:List α) (n:Nat),xs=pre++post→post.length<n→L n (m0+(sumL c pre:Int)) (pre.length:Int)=G:=by
  intro post
  induction post with
  | nil =>
   intro pre n hx hn
   obtain ⟨m,rfl⟩:∃ m,n=m+1:=⟨n-1,by simp at hn; omega⟩
   rw [List.append_nil] at hx
   have:=h2 m
   rw [hlen] at this
   rw [← hx]; exact this
  | cons x post ih =>
   intro pre n hx hn
   obtain ⟨m,rfl⟩:∃ m,n=m+1:=⟨n-1,by simp at hn; omega⟩
   have hl:(mkL f pre m0).1.length=pre.length:=zb0_ f _ _
   have hs:sumL c xs=sumL c pre+(c x+sumL c post):=by rw [hx,zhl_,z3o_]
   have hlx:pre.length<xs.length:=by rw [hx]; simp
   have hg:(mkL f xs m0).1[pre.length]?=some (f x (m0+(sumL c pre:Int))).1:=by
    rw [hx,zle_,List.getElem?_append_right (by omega),hl,Nat.sub_self,zld_ hc]
    rfl
   rw [h1 m pre.length (m0+(sumL c pre:Int)) x hg (by rw [hx]; simp) (by omega) (by omega) (by omega) (by omega)]
   have:=ih (pre++[x]) m (by rw [hx]; simp) (by simp at hn; omega)
   have e2:m0+(sumL c pre:Int)+(c x:Int)=m0+(sumL c (pre++[x]):Int):=by rw [zhl_,z3o_,z8c_]; omega
   rw [e2]
   rw [List.length_append] at this
   simpa using this
 have:=main xs [] n rfl hn
 simpa [z8c_] using this
theorem zhn_ {α:Type}:∀ l:List α,sumL (fun _=>1) l=l.length
 | []=>rfl
 | x::l=>by rw [z3o_,zhn_ l,List.length_cons]; omega
abbrev Prb:=Int×List UInt8×List UInt8
noncomputable def mkPb (k:Nat) (_:Prb) (m:Int):Prb×Int:=((m,tM k (m+1),tM k (m+1+1)),m+((3:Nat):Int))
theorem zq4_ (k:Nat) (x:Prb) (m:Int):(mkPb k x m).2=m+(((fun _:Prb=>3) x:Nat):Int):=rfl
theorem zlf_ {α:Type}:∀ l:List α,sumL (fun _=>3) l=3*l.length
 | []=>rfl
 | x::l=>by rw [z3o_,zlf_ l,List.length_cons]; omega
theorem zwg_ {k:Nat} (hk:KK≤k) {L:List Prb} {m:Int} (h0:0≤m) (h1:m+((3*L.length:Nat):Int)≤100000000000000000) (hL:L.length≤1000000000000) :
  zcc_ k m L=some ((m+((3*L.length:Nat):Int),()),((mkL (mkPb k) L m).1,()),()):=by
 have hK:=zk_
 rw [← zlf_] at h1 ⊢
 unfold zcc_
 refine z6v_ (zq4_ k) L (m0:=m) (B:=100000000000000000) h1 (S:=fun l=>l) (L:=fun n m i q=>za4_ k n m i q (fun k_11 q_12=>some ((k_11,()),(q_12,()),()))) ?_ ?_ (n:=k) (by omega)
 ·intro n i m' l y hll hg hy m0 m1 hlt hlt'
  have hw:=zj_ (i:=i) (by omega)
  have w1:z0_ (m'+1)=m'+1:=w_id (by omega) (by omega)
  have w2:z0_ (m'+1+1)=m'+1+1:=w_id (by omega) (by omega)
  have w3:z0_ (m'+1+1+1)=m'+((3:Nat):Int):=by rw [w_id (by omega) (by omega)]; omega
  simp only [za4_,hlt,hlt',decide_true,if_true,Option.bind_some,Int.natCast_nonneg,Int.toNat_natCast,and_self,hg,List.length_set,List.getElem?_set_self hlt',w1,w2,w3,zhm_ hk (show m'+1≤9223372036854775807 by omega),zhm_ hk (show m'+1+1≤9223372036854775807 by omega),List.set_set,hw,mkPb]
 ·intro n l hl2 hll
  have:¬ (L.length:Int)<(l.length:Int):=by omega
  simp only [za4_,this,decide_false,Bool.false_eq_true,if_false]
  rw [hl2]
theorem zwh_ {k:Nat} (hk:KK≤k) {L:List Prb} {m:Int} (h0:0≤m) (h1:m+((3*L.length:Nat):Int)≤100000000000000000) (hL:L.length≤1000000000000) :
  za6_ k (mkL (mkPb k) L m).1 m=some (m+((3*L.length:Nat):Int)):=by
 have hK:=zk_
 rw [← zlf_] at h1 ⊢
 unfold za6_
 refine zwf_ (zq4_ k) L (m0:=m) (B:=100000000000000000) h1 (L:=fun n m' i=>za5_ k n (mkL (mkPb k) L m).1 m' i fun k_6=>some k_6) ?_ ?_ (n:=k) (by omega)
 ·intro n i m' y hg hy m0 m1 hlt hlt'
  have hw:=zj_ (i:=i) (by rw [zb0_] at hlt'; omega)
  have w1:z0_ (m'+1)=m'+1:=w_id (by omega) (by omega)
  have w2:z0_ (m'+1+1)=m'+1+1:=w_id (by omega) (by omega)
  have w3:z0_ (m'+1+1+1)=m'+((3:Nat):Int):=by rw [w_id (by omega) (by omega)]; omega
  simp only [za5_,hlt,decide_true,if_true,Int.natCast_nonneg,Int.toNat_natCast,hg,Option.bind_some,w1,w2,w3,zhm_ hk (show m'+1≤9223372036854775807 by omega),zhm_ hk (show m'+1+1≤9223372036854775807 by omega),mkPb,Bool.not_true,Bool.false_eq_true,if_false,hw]
 ·intro n
  simp only [za5_,Int.lt_irrefl,decide_false,Bool.false_eq_true,if_false]
theorem zwi_ {k:Nat} (hk:KK≤k) {L:List Prb} (hL:L.length≤1000000000):∃ (m:Int) (q:List Prb),zcc_ k 1 L=some ((m,()),(q,()),())∧za6_ k q 1=some m∧¬ m<0 :=
 ⟨_,_,zwg_ hk (by omega) (by omega) (by omega),zwh_ hk (by omega) (by omega) (by omega),by omega⟩
theorem z20_ {S R:Type} {L:Nat→Int→S→R} {b:Nat} {st:Nat→S} {e:R} (h1:∀ n (i:Nat),i<b→L (n+1) (i:Int) (st i)=L n ((i+1:Nat):Int) (st (i+1))) (h2:∀ n,L (n+1) (b:Int) (st b)=e):∀ {n:Nat},b<n→L n 0 (st 0)=e:=by
 have key:∀ (d i n:Nat),i+d=b→d<n→L n (i:Int) (st i)=e:=by
  intro d
  induction d with
  | zero =>
   intro i n hi hn
   obtain ⟨n,rfl⟩:∃ m,n=m+1:=⟨n-1,by omega⟩
   have:i=b:=by omega
   subst this
   exact h2 n
  | succ d ih =>
   intro i n hi hn
   obtain ⟨n,rfl⟩:∃ m,n=m+1:=⟨n-1,by omega⟩
   rw [h1 n i (by omega)]
   exact ih (i+1) n (by omega) (by omega)
 intro n hn
 exact key b 0 n (by omega) hn
def dimB (c:Cx) (d:Int) (i:Nat):Bool:=match c[i]? with
 | some s=>decide ((s.length:Int)=d+1)
 | none=>false
theorem zwj_ (c:Cx) (d:Int):ofC c d=(List.range c.length).filter (dimB c d):=rfl
def ofN (c:Cx) (d:Int) (n:Nat):List Nat:=(List.range n).filter (dimB c d)
theorem zlg_ {c:Cx} {d:Int} {n i:Nat} (h:i∈ofN c d n):i<n:=List.mem_range.1 (List.mem_filter.1 h).1
theorem zq5_ (c:Cx) (d:Int) (n:Nat):ofN c d (n+1)=ofN c d n++(if dimB c d n=true then [n] else []):=zcr_ _ _
theorem zq6_ {c:Cx} {d:Int} {j:Nat} (hj:j<c.length) (h:dimB c d j=true):∃ post,ofC c d=ofN c d j++j::post∧∀ i∈post,i<c.length:=by
 have e:c.length=(j+1)+(c.length-(j+1)):=by omega
 refine ⟨((List.range (c.length-(j+1))).map (j+1+·)).filter (dimB c d),?_,?_⟩
 ·rw [zwj_,e,List.range_add,List.filter_append]
  have:=zq5_ c d j
  unfold ofN at this
  rw [this,if_pos h]
  simp [ofN]
 ·intro i hi
  obtain ⟨x,hx,rfl⟩:=List.mem_map.1 (List.mem_filter.1 hi).1
  have:=List.mem_range.1 hx
  omega
theorem zwk_ (st:List Int) (l m:List Nat):zg_ st (l++m)=zg_ st l+zg_ st m:=by unfold zg_; simp
def offJ (s:She) (j:Nat):Int:=match s.1[j]? with
 | some t=>zg_ s.2.2.1 (ofN s.1 ((t.length:Int)-1) j)
 | none=>0
def oN (s:She) (j:Nat):Nat:=(offJ s j).toNat
theorem zlh_ {s:She} {j:Nat} {t:List Int} (hj:s.1[j]?=some t):offJ s j=zg_ s.2.2.1 (ofN s.1 ((t.length:Int)-1) j):=by unfold offJ; rw [hj]
theorem zcv_ {s:She} (hS:StP s.1 s.2.2.1) {j:Nat} {t:List Int} (hj:s.1[j]?=some t) {d:Int} (hd:(t.length:Int)=d+1):offJ s j=(oN s j:Int)∧s.2.2.1.getD j 0=(stN s j:Int)∧(oN s j:Int)+(stN s j:Int)≤zg_ s.2.2.1 (ofC s.1 d):=by
 have hjl:=(List.getElem?_eq_some_iff.1 hj).1
 have hb:dimB s.1 d j=true:=by unfold dimB; rw [hj]; exact decide_eq_true hd
 obtain ⟨post,e,hp⟩:=zq6_ hjl hb
 obtain ⟨_,s2,s3⟩:=z49_ hS hjl
 have b1:=z6t_ hS (ofN s.1 d j) (fun i hi=>by have:=zlg_ hi; omega)
 have b2:=z6t_ hS post hp
 have e1:offJ s j=zg_ s.2.2.1 (ofN s.1 d j):=by rw [zlh_ hj,show (t.length:Int)-1=d by omega]
 have e2:zg_ s.2.2.1 (ofC s.1 d)=zg_ s.2.2.1 (ofN s.1 d j)+(s.2.2.1.getD j 0+zg_ s.2.2.1 post):=by
  rw [e,zwk_]
  congr 1
 unfold oN stN
 rw [e1] at *
 omega
theorem zli_ {k:Nat} (hk:KK≤k) {s:She} (hC:CxP s.1) (hS:StP s.1 s.2.2.1) {j:Nat} {t:List Int} (hj:s.1[j]?=some t):zaj_ k s (j:Int)=some (oN s j:Int):=by
 have hK:=zk_
 have hjl:=(List.getElem?_eq_some_iff.1 hj).1
 have hcl:=hC.len
 obtain ⟨o1,_,_⟩:=zcv_ hS hj (d:=(t.length:Int)-1) (by omega)
 unfold zaj_
 have:=z20_ (S:=Int) (L:=fun m i z=>z7y_ k m s (j:Int) z i (fun at_4=>some at_4)) (b:=j) (st:=fun i=>zg_ s.2.2.1 (ofN s.1 ((t.length:Int)-1) i)) (e:=some (oN s j:Int)) ?_ ?_ (n:=k) (by omega)
 ·simpa [ofN,zg_] using this
 ·intro m i hi
  have hlt:(i:Int)<(j:Int):=by omega
  have hw:=zj_ (i:=i) (by omega)
  have hg:s.1[i]?=some s.1[i]:=List.getElem?_eq_getElem (by omega)
  obtain ⟨s1,s2,s3⟩:=z49_ hS (i:=i) (by omega)
  have b1:=z6t_ hS (ofN s.1 ((t.length:Int)-1) i) (fun x hx=>by have:=zlg_ hx; omega)
  have b2:(ofN s.1 ((t.length:Int)-1) i).length≤i:=by unfold ofN; exact Nat.le_trans (List.length_filter_le ..) (by rw [List.length_range]; exact Nat.le_refl _)
  have hwz:z0_ (zg_ s.2.2.1 (ofN s.1 ((t.length:Int)-1) i)+s.2.2.1.getD i 0)=zg_ s.2.2.1 (ofN s.1 ((t.length:Int)-1) i)+s.2.2.1.getD i 0:=w_id (by omega) (by omega)
  simp only [z7y_,hlt,decide_true,if_true,Int.natCast_nonneg,Int.toNat_natCast,hg,hj,Option.bind_some,hw,s1,hwz,zq5_]
  have hd:dimB s.1 ((t.length:Int)-1) i=decide ((s.1[i].length:Int)=(t.length:Int)):=by
   unfold dimB; rw [hg]
   exact decide_eq_decide.2 (by omega)
  rw [hd]
  by_cases c:(s.1[i].length:Int)=(t.length:Int)
  ·rw [decide_eq_true c,if_pos rfl,if_pos rfl,zhi_]
  ·rw [decide_eq_false c,if_neg (by simp),if_neg (by simp),List.append_nil]
 ·intro m
  simp only [z7y_,Int.lt_irrefl,decide_false,Bool.false_eq_true,if_false,← zlh_ hj,o1]
theorem zlj_ {k:Nat} (hk:KK≤k) {s:She} (hC:CxP s.1) (hS:StP s.1 s.2.2.1) {j:Nat} {t:List Int} (hj:s.1[j]?=some t):z9k_ k s (j:Int)=some (oN s j:Int):=by
 have hK:=zk_
 have hjl:=(List.getElem?_eq_some_iff.1 hj).1
 have hcl:=hC.len
 have h4:=(hC.simp t (List.mem_of_getElem? hj)).len4
 obtain ⟨o1,_,_⟩:=zcv_ hS hj (d:=(t.length:Int)-1) (by omega)
 have hb:dimB s.1 ((t.length:Int)-1) j=true:=by unfold dimB; rw [hj]; exact decide_eq_true (by omega)
 obtain ⟨post,e,_⟩:=zq6_ hjl hb
 have hwl:z0_ ((t.length:Int)-1)=(t.length:Int)-1:=w_id (by omega) (by omega)
 unfold z9k_ z4p_
 simp only [Int.natCast_nonneg,if_true,Int.toNat_natCast,hj,Option.bind_some,hwl,zhh_ hk (z3n_ hC) (show -1000≤(t.length:Int)-1∧(t.length:Int)-1≤1000 by omega),List.length_map]
 generalize hpre:ofN s.1 ((t.length:Int)-1) j=pre at *
 have hmem:∀ x∈pre,x<j:=fun x hx=>zlg_ (hpre▸hx)
 rw [e]
 have hpl:pre.length≤j:=by rw [← hpre]; unfold ofN; exact Nat.le_trans (List.length_filter_le ..) (by rw [List.length_range]; exact Nat.le_refl _)
 have:=z20_ (S:=Int) (L:=fun m i z=>z9j_ k m (j:Int) z ((pre++j::post).length:Int) i ((pre++j::post).map fun i:Nat=>(i:Int)) s (fun n_7=>some n_7)) (b:=pre.length) (st:=fun i=>zg_ s.2.2.1 (pre.take i)) (e:=some (oN s j:Int)) ?_ ?_ (n:=k) (by omega)
 ·simpa [zg_] using this
 ·intro m i hi
  have hlt:(i:Int)<((pre++j::post).length:Int):=by rw [List.length_append]; omega
  have hin:i<(pre++j::post).length:=by rw [List.length_append]; omega
  have hw:=zj_ (i:=i) (by omega)
  have hgp:pre[i]?=some pre[i]:=List.getElem?_eq_getElem hi
  have hx:=hmem _ (List.getElem_mem hi)
  have hF:((pre++j::post).map fun i:Nat=>(i:Int))[i]?=some ((pre[i]:Nat):Int):=by rw [List.getElem?_map,List.getElem?_append_left hi,hgp]; rfl
  obtain ⟨s1,s2,s3⟩:=z49_ hS (i:=pre[i]) (by omega)
  have b1:=z6t_ hS (pre.take i) (fun x hx=>by have:=hmem x (List.mem_of_mem_take hx); omega)
  have b2:(pre.take i).length≤i:=by rw [List.length_take]; omega
  have hne:¬ ((pre[i]:Nat):Int)=(j:Int):=by omega
  have hst:zg_ s.2.2.1 (pre.take (i+1))=zg_ s.2.2.1 (pre.take i)+s.2.2.1.getD pre[i] 0:=by rw [List.take_add_one,hgp]; exact zhi_ ..
  have hwz:z0_ (zg_ s.2.2.1 (pre.take i)+s.2.2.1.getD pre[i] 0)=zg_ s.2.2.1 (pre.take i)+s.2.2.1.getD pre[i] 0:=w_id (by omega) (by omega)
  simp only [z9j_,hlt,decide_true,if_true,Int.natCast_nonneg,Int.toNat_natCast,List.length_map,hin,and_self,hF,Option.bind_some,hne,decide_false,Bool.false_eq_true,if_false,s1,hw,hwz,hst]
 ·intro m
  have hlt:(pre.length:Int)<((pre++j::post).length:Int):=by rw [List.length_append,List.length_cons]; omega
  have hin:pre.length<(pre++j::post).length:=by rw [List.length_append,List.length_cons]; omega
  have hF:((pre++j::post).map fun i:Nat=>(i:Int))[pre.length]?=some (j:Int):=by rw [List.getElem?_map,List.getElem?_append_right (Nat.le_refl _),Nat.sub_self]; rfl
  simp only [z9j_,hlt,decide_true,if_true,Int.natCast_nonneg,Int.toNat_natCast,List.length_map,hin,and_self,hF,Option.bind_some,List.take_length]
  rw [← o1,zlh_ hj,hpre]
theorem zwl_ {k:Nat} (hk:KK≤k) (p:Int) {R C:Nat} (hR:R≤32) (hC:C≤32):zfe_ k p (R:Int) (C:Int)=some (p,(R:Int),(C:Int),List.replicate (R*C) 0):=by
 have hK:=zk_
 have hL:=z1i_
 unfold zfe_ zjq_
 have row:∀ (i:Nat) (x16 x17:Int) (q3 q:List Int) (u1 u2 u3 u4 u5 u6:Int) (E:Int→Unit→Int→Int→List Int→List Int→Int→Int→Int→Int→Int→Int→Option Mat),q.length≤1024→z6d_ k k (C:Int) () (i:Int) x16 x17 (C:Int) 0 q3 q u1 u2 u3 u4 u5 u6 E=E (C:Int) () x16 x17 q3 (q++List.replicate C 0) u1 u2 u3 u4 u5 u6:=by
  intro i x16 x17 q3 q u1 u2 u3 u4 u5 u6 E hq
  have:=z20_ (S:=List Int) (L:=fun m j r=>z6d_ k m (C:Int) () (i:Int) x16 x17 (C:Int) j q3 r u1 u2 u3 u4 u5 u6 E) (b:=C) (st:=fun j=>q++List.replicate j 0) (e:=E (C:Int) () x16 x17 q3 (q++List.replicate C 0) u1 u2 u3 u4 u5 u6) ?_ ?_ (n:=k) (by omega)
  ·simpa using this
  ·intro m j hj
   have hlt:(j:Int)<(C:Int):=by omega
   have hw:=zj_ (i:=j) (by omega)
   have hlim:((q++List.replicate j (0:Int)).length+1)*8≤LIM:=by rw [List.length_append,List.length_replicate]; omega
   simp only [z6d_,zjp_,hlt,decide_true,if_true,Option.bind_some,List.length_singleton,hlim,hw,List.replicate_succ',List.append_assoc]
  ·intro m
   simp only [z6d_,Int.lt_irrefl,decide_false,Bool.false_eq_true,if_false]
 have:=z20_ (S:=List Int) (L:=fun m i r=>z7i_ k m (C:Int) () (R:Int) i [] r 0 0 0 p (R:Int) (C:Int) (fun q_15 q_16 v_8a_17 v_8ba_18 v_8bba_19 v_9a_20 v_9ba_21 v_9bba_22=>some (v_9a_20,(v_9ba_21,(v_9bba_22,q_16))))) (b:=R) (st:=fun i=>List.replicate (i*C) 0) (e:=some (p,(R:Int),(C:Int),List.replicate (R*C) 0)) ?_ ?_ (n:=k) (by omega)
 ·simp only [Nat.zero_mul,List.replicate_zero] at this
  rw [this]
  first | done | rfl
 ·intro m i hi
  have hlt:(i:Int)<(R:Int):=by omega
  have hw:=zj_ (i:=i) (by omega)
  have h1:i*C≤32*32:=Nat.mul_le_mul (by omega) hC
  simp only [z7i_,hlt,decide_true,if_true,row i _ _ _ _ _ _ _ _ _ _ _ (show (List.replicate (i*C) (0:Int)).length≤1024 by rw [List.length_replicate]; omega),hw,Nat.succ_mul,List.replicate_append_replicate]
 ·intro m
  simp only [z7i_,Int.lt_irrefl,decide_false,Bool.false_eq_true,if_false]
theorem zwm_ (p:Int) {R C:Nat} (hR:R≤32) (hC:C≤32):zcf_ p (R:Int) (C:Int)=some (p,(R:Int),(C:Int),List.replicate (R*C) 0):=by
 have hL:=z1i_
 have h1:R*C≤32*32:=Nat.mul_le_mul hR hC
 unfold zcf_
 rw [zcu_ hR hC,if_pos ⟨by omega,by omega,by omega⟩,Int.toNat_natCast]
def sgnM (p:Int) (i:Nat):Int:=if decide (Int.tmod (i:Int) 2=0)=true then 1 else p-1
theorem zwn_ {p:Int} (hp:2≤p∧p≤251) (i:Nat):zfh_ (i:Int) p=some (sgnM p i):=by
 unfold zfh_ sgnM
 rw [w_id (by omega) (by omega)]
 split <;> rfl
theorem zwo_ {p:Int} (hp:2≤p∧p≤251) (i:Nat):zgt_ (i:Int) p=some (sgnM p i):=by
 have e:Int.tmod 1 p=1:=by rw [Int.tmod_eq_emod_of_nonneg (a:=1) (by omega),Int.emod_eq_of_lt (a:=1) (by omega) (by omega)]
 have hp0:¬ p=0:=by omega
 unfold zgt_ sgnM
 rw [w_id (by omega) (by omega),e]
 by_cases c:Int.tmod (i:Int) 2=0
 ·rw [decide_eq_true c,if_pos rfl,if_pos rfl,if_neg hp0]
 ·rw [decide_eq_false c,if_neg (by simp),if_neg (by simp)]
theorem zwp_ {p:Int} (hp:2≤p∧p≤251) (i:Nat):1≤sgnM p i∧sgnM p i≤250:=by
 unfold sgnM; split <;> omega
def insR (p sg:Int) (m:Mat) (C C' top left a:Nat):Nat→List Int→List Int
 | 0,Q=>Q
 | b+1,Q=>(insR p sg m C C' top left a b Q).set ((top+a)*C+left+b) (Int.tmod (z0_ (m.2.2.2.getD (a*C'+b) 0*sg)) p)
theorem zho_ (p sg:Int) (m:Mat) (C C' top left a:Nat) (Q:List Int):∀ b,(insR p sg m C C' top left a b Q).length=Q.length
 | 0=>rfl
 | b+1=>by unfold insR; rw [List.length_set]; exact zho_ p sg m C C' top left a Q b
def insM (p sg:Int) (m:Mat) (C C' top left:Nat):Nat→List Int→List Int
 | 0,Q=>Q
 | a+1,Q=>insR p sg m C C' top left a C' (insM p sg m C C' top left a Q)
theorem zhp_ (p sg:Int) (m:Mat) (C C' top left:Nat) (Q:List Int):∀ a,(insM p sg m C C' top left a Q).length=Q.length
 | 0=>rfl
 | a+1=>by unfold insM; rw [zho_]; exact zhp_ p sg m C C' top left Q a
def insF (s:She) (C j:Nat) (F:List Nat):Nat→List Int→List Int
 | 0,Q=>Q
 | i+1,Q=>insM s.2.1 (sgnM s.2.1 i) (mpS s j i) C (stN s (F.getD i 0)) (oN s j) (oN s (F.getD i 0)) (stN s j) (insF s C j F i Q)
theorem zhq_ (s:She) (C j:Nat) (F:List Nat) (Q:List Int):∀ i,(insF s C j F i Q).length=Q.length
 | 0=>rfl
 | i+1=>by unfold insF; rw [zhp_]; exact zhq_ s C j F Q i
def fcs (s:She) (j:Nat):List Nat:=zp_ s.1 (s.1.getD j [])
def insA (s:She) (C:Nat) (O:List Nat):Nat→List Int→List Int
 | 0,Q=>Q
 | n+1,Q=>insF s C (O.getD n 0) (fcs s (O.getD n 0)) (fcs s (O.getD n 0)).length (insA s C O n Q)
theorem zhr_ (s:She) (C:Nat) (O:List Nat) (Q:List Int):∀ n,(insA s C O n Q).length=Q.length
 | 0=>rfl
 | n+1=>by unfold insA; rw [zhq_]; exact zhr_ s C O Q n
def inP (p:Int) (Q:List Int):Prop:=∀ x∈Q,0≤x∧x≤p-1
theorem zwq_ {p:Int} {Q:List Int} (h:inP p Q) {i:Nat} {v:Int} (hv:0≤v∧v≤p-1):inP p (Q.set i v):=fun x hx=>by
 rcases List.mem_or_eq_of_mem_set hx with h1 | h1
 ·exact h x h1
 ·rw [h1]; exact hv
theorem zwr_ {p v:Int} (hp:2≤p) (hv:0≤v):0≤Int.tmod v p∧Int.tmod v p≤p-1:=by
 rw [Int.tmod_eq_emod_of_nonneg hv]
 have:=Int.emod_nonneg v (show p≠0 by omega)
 have:=Int.emod_lt_of_pos v (show 0<p by omega)
 omega
theorem zq7_ {p:Int} (hp:2≤p∧p≤251) {sg:Int} (hs:1≤sg∧sg≤250) {m:Mat} {R' C':Nat} (hm:MatP m R' C') {C top left a:Nat} {Q:List Int} (h:inP p Q):∀ b,inP p (insR p sg m C C' top left a b Q)
 | 0=>h
 | b+1=>by
  unfold insR
  have hc:=zpz_ hm (a*C'+b)
  have h1:0≤m.2.2.2.getD (a*C'+b) 0*sg:=Int.mul_nonneg hc.1 (by omega)
  have h2:m.2.2.2.getD (a*C'+b) 0*sg≤250*250:=Int.mul_le_mul hc.2 hs.2 (by omega) (by omega)
  refine zwq_ (zq7_ hp hs hm h b) ?_
  rw [w_id (by omega) (by omega)]
  exact zwr_ hp.1 h1
theorem zq8_ {p:Int} (hp:2≤p∧p≤251) {sg:Int} (hs:1≤sg∧sg≤250) {m:Mat} {R' C':Nat} (hm:MatP m R' C') {C top left:Nat} {Q:List Int} (h:inP p Q):∀ a,inP p (insM p sg m C C' top left a Q)
 | 0=>h
 | a+1=>zq7_ hp hs hm (zq8_ hp hs hm h a) C'
theorem zq9_ {T a C Lf b R:Nat} (hR:R≤32) (hC:C≤32) (hT:T+a<R) (hL:Lf+b<C):z0_ (z0_ (z0_ (z0_ ((T:Int)+(a:Int))*(C:Int))+(Lf:Int))+(b:Int))=(((T+a)*C+Lf+b:Nat):Int)∧(T+a)*C+Lf+b<R*C:=by
 have h1:(T+a)*C≤32*32:=Nat.mul_le_mul (by omega) hC
 have e1:z0_ ((T:Int)+(a:Int))=((T+a:Nat):Int):=by rw [w_id (by omega) (by omega)]; omega
 have e2:z0_ (((T+a:Nat):Int)*(C:Int))=(((T+a)*C:Nat):Int):=zcu_ (by omega) hC
 have e3:z0_ ((((T+a)*C:Nat):Int)+(Lf:Int))=(((T+a)*C+Lf:Nat):Int):=by rw [w_id (by omega) (by omega)]; omega
 have e4:z0_ ((((T+a)*C+Lf:Nat):Int)+(b:Int))=(((T+a)*C+Lf+b:Nat):Int):=by rw [w_id (by omega) (by omega)]; omega
 have h2:=zpy_ hT hL
 exact ⟨by rw [e1,e2,e3,e4],by omega⟩
theorem zlk_ {m:Mat} {R' C':Nat} (hm:MatP m R' C') {a b:Nat} (ha:a<R') (hb:b<C'):z0_ (z0_ ((a:Int)*(C':Int))+(b:Int))=((a*C'+b:Nat):Int):=by
 have h1:=hm.r32
 have h2:=hm.c32
 have h3:a*C'≤32*32:=Nat.mul_le_mul (by omega) h2
 rw [zcu_ (by omega) h2,w_id (by omega) (by omega)]
 omega
theorem zws_ {k:Nat} (hk:KK≤k) {s:She} (hp:2≤s.2.1∧s.2.1≤251) {m:Mat} {R' C':Nat} (hm:MatP m R' C') {R C T Lf a i:Nat} (hR:R≤32) (hC:C≤32) (ha:a<R') (hT:T+R'≤R) (hL:Lf+C'≤C) {Q:List Int} (hQ:Q.length=R*C) (k1 x7 x30 x31 x41 x42 x58 x59:Int) (q1 q2 q3:List Int) (a1 a2 a3 b1 b2:Int) (E:Int→Int→Int→Int→Int→Int→Int→Int→Int→Int→Int→List Int→List Int→List Int→List Int→She→Int→Int→Int→Int→Int→Int→Mat→Option Mat) :
  z6f_ k k k1 x7 (i:Int) (T:Int) (Lf:Int) (a:Int) x30 x31 x41 x42 x58 x59 (C':Int) 0 q1 q2 q3 Q s a1 a2 a3 b1 b2 (C:Int) m E=E k1 x7 (i:Int) (T:Int) (Lf:Int) x30 x31 x41 x42 x58 x59 q1 q2 q3 (insR s.2.1 (sgnM s.2.1 i) m C C' T Lf a C' Q) s a1 a2 a3 b1 b2 (C:Int) m:=by
 have hK:=zk_
 have hc32:=hm.c32
 refine z20_ (S:=List Int) (L:=fun n b q=>z6f_ k n k1 x7 (i:Int) (T:Int) (Lf:Int) (a:Int) x30 x31 x41 x42 x58 x59 (C':Int) b q1 q2 q3 q s a1 a2 a3 b1 b2 (C:Int) m E) (b:=C') (st:=fun b=>insR s.2.1 (sgnM s.2.1 i) m C C' T Lf a b Q) ?_ ?_ (n:=k) (by omega)
 ·intro n b hb
  have hlt:(b:Int)<(C':Int):=by omega
  have hw:=zj_ (i:=b) (by omega)
  obtain ⟨ix,il⟩:=zq9_ (T:=T) (a:=a) (C:=C) (Lf:=Lf) (b:=b) hR hC (by omega) (by omega)
  have hin:(T+a)*C+Lf+b<(insR s.2.1 (sgnM s.2.1 i) m C C' T Lf a b Q).length:=by rw [zho_,hQ]; exact il
  have hg:=List.getElem?_eq_getElem hin
  have hp0:¬ s.2.1=0:=by omega
  simp only [z6f_,zjr_,hm.cols,zlk_ hm ha hb,zl7_ hm ha hb,hlt,decide_true,if_true,Int.natCast_nonneg,Int.toNat_natCast,Option.bind_some,zwn_ hp,hp0,if_false,ix,hin,and_self,hg,hw,insR]
 ·intro n
  simp only [z6f_,Int.lt_irrefl,decide_false,Bool.false_eq_true,if_false]
theorem zwt_ {k:Nat} (hk:KK≤k) {s:She} (hp:2≤s.2.1∧s.2.1≤251) {m:Mat} {R' C':Nat} (hm:MatP m R' C') {R C T Lf a:Nat} (sg:Int) (hR:R≤32) (hC:C≤32) (ha:a<R') (hT:T+R'≤R) (hL:Lf+C'≤C) {Q:List Int} (hQ:Q.length=R*C) (k1 n7 i10:Int) (q1 q2 q3:List Int) (a1 a2 a3 b1 b2:Int) (E:She→Int→Int→Int→Int→Mat→Int→Int→Int→List Int→List Int→List Int→List Int→Int→Int→Int→Int→Int→Int→Option Mat) :
  z6l_ k k s k1 n7 (T:Int) i10 m (Lf:Int) sg (a:Int) 0 q1 q2 q3 Q a1 a2 a3 b1 b2 (C:Int) E=E s k1 n7 (T:Int) i10 m (Lf:Int) sg (a:Int) q1 q2 q3 (insR s.2.1 sg m C C' T Lf a C' Q) a1 a2 a3 b1 b2 (C:Int):=by
 have hK:=zk_
 have hc32:=hm.c32
 refine z20_ (S:=List Int) (L:=fun n b q=>z6l_ k n s k1 n7 (T:Int) i10 m (Lf:Int) sg (a:Int) b q1 q2 q3 q a1 a2 a3 b1 b2 (C:Int) E) (b:=C') (st:=fun b=>insR s.2.1 sg m C C' T Lf a b Q) ?_ ?_ (n:=k) (by omega)
 ·intro n b hb
  have hlt:(b:Int)<m.2.2.1:=by rw [hm.cols]; omega
  have hw:=zj_ (i:=b) (by omega)
  obtain ⟨ix,il⟩:=zq9_ (T:=T) (a:=a) (C:=C) (Lf:=Lf) (b:=b) hR hC (by omega) (by omega)
  have hin:(T+a)*C+Lf+b<(insR s.2.1 sg m C C' T Lf a b Q).length:=by rw [zho_,hQ]; exact il
  have hg:=List.getElem?_eq_getElem hin
  have hp0:¬ s.2.1=0:=by omega
  simp only [z6l_,hlt,decide_true,if_true]
  simp only [hm.cols,zlk_ hm ha hb,zl7_ hm ha hb,decide_true,if_true,Int.natCast_nonneg,Int.toNat_natCast,Option.bind_some,hp0,if_false,ix,hin,and_self,hg,hw,insR]
 ·intro n
  have hlt:¬ (C':Int)<m.2.2.1:=by rw [hm.cols]; omega
  simp only [z6l_,hlt,decide_false,Bool.false_eq_true,if_false]
theorem zwu_ {k:Nat} (hk:KK≤k) {s:She} (hp:2≤s.2.1∧s.2.1≤251) {m:Mat} {R' C':Nat} (hm:MatP m R' C') {R C T Lf i:Nat} (hR:R≤32) (hC:C≤32) (hT:T+R'≤R) (hL:Lf+C'≤C) {Q:List Int} (hQ:Q.length=R*C) (k1 x7 x30 x31 x41 x42:Int) (q1 q2 q3:List Int) (a1 a2 a3 b1 b2:Int) (E:Int→Int→Int→Int→Int→Int→List Int→List Int→List Int→List Int→She→Int→Int→Int→Int→Int→Int→Option Mat) :
  z6g_ k k k1 x7 (i:Int) (T:Int) (Lf:Int) x30 x31 x41 x42 (R':Int) 0 q1 q2 q3 Q s a1 a2 a3 b1 b2 (C:Int) m E=E k1 x7 x30 x31 x41 x42 q1 q2 q3 (insM s.2.1 (sgnM s.2.1 i) m C C' T Lf R' Q) s a1 a2 a3 b1 b2 (C:Int):=by
 have hK:=zk_
 have hr32:=hm.r32
 refine z20_ (S:=List Int) (L:=fun n a q=>z6g_ k n k1 x7 (i:Int) (T:Int) (Lf:Int) x30 x31 x41 x42 (R':Int) a q1 q2 q3 q s a1 a2 a3 b1 b2 (C:Int) m E) (b:=R') (st:=fun a=>insM s.2.1 (sgnM s.2.1 i) m C C' T Lf a Q) ?_ ?_ (n:=k) (by omega)
 ·intro n a ha
  have hlt:(a:Int)<(R':Int):=by omega
  have hw:=zj_ (i:=a) (by omega)
  simp only [z6g_,hlt,decide_true,if_true]
  rw [hm.cols,zws_ hk hp hm hR hC ha hT hL (by rw [zhp_]; exact hQ)]
  simp only [hw,insM]
 ·intro n
  simp only [z6g_,Int.lt_irrefl,decide_false,Bool.false_eq_true,if_false]
theorem zwv_ {k:Nat} (hk:KK≤k) {s:She} (hp:2≤s.2.1∧s.2.1≤251) {m:Mat} {R' C':Nat} (hm:MatP m R' C') {R C T Lf:Nat} (sg:Int) (hR:R≤32) (hC:C≤32) (hT:T+R'≤R) (hL:Lf+C'≤C) {Q:List Int} (hQ:Q.length=R*C) (k1 n7 i10:Int) (q1 q2 q3:List Int) (a1 a2 a3 b1 b2:Int) (E:She→Int→Int→Int→Int→List Int→List Int→List Int→List Int→Int→Int→Int→Int→Int→Int→Option Mat) :
  z6m_ k k s k1 n7 (T:Int) i10 m (Lf:Int) sg 0 q1 q2 q3 Q a1 a2 a3 b1 b2 (C:Int) E=E s k1 n7 (T:Int) i10 q1 q2 q3 (insM s.2.1 sg m C C' T Lf R' Q) a1 a2 a3 b1 b2 (C:Int):=by
 have hK:=zk_
 have hr32:=hm.r32
 refine z20_ (S:=List Int) (L:=fun n a q=>z6m_ k n s k1 n7 (T:Int) i10 m (Lf:Int) sg a q1 q2 q3 q a1 a2 a3 b1 b2 (C:Int) E) (b:=R') (st:=fun a=>insM s.2.1 sg m C C' T Lf a Q) ?_ ?_ (n:=k) (by omega)
 ·intro n a ha
  have hlt:(a:Int)<m.2.1:=by rw [hm.rows]; omega
  have hw:=zj_ (i:=a) (by omega)
  simp only [z6m_,hlt,decide_true,if_true]
  rw [zwt_ hk hp hm sg hR hC ha hT hL (by rw [zhp_]; exact hQ)]
  simp only [hw,insM]
 ·intro n
  have hlt:¬ (R':Int)<m.2.1:=by rw [hm.rows]; omega
  simp only [z6m_,hlt,decide_false,Bool.false_eq_true,if_false]
theorem zqa_ {c:Cx} {d:Int} {j:Nat} (h:j∈ofC c d):∃ t,c[j]?=some t∧(t.length:Int)=d+1:=by
 have hl:=z6s_ h
 have:=(List.mem_filter.1 h).2
 have hg:c[j]?=some c[j]:=List.getElem?_eq_getElem hl
 rw [hg] at this
 exact ⟨c[j],hg,of_decide_eq_true this⟩
theorem zcw_ {k:Nat} (hk:KK≤k) {s:She} (hs:smallSh s) (h:sheB k s=true) {j:Nat} (hj:j∈ofC s.1 1) {R C:Nat} (hR:zg_ s.2.2.1 (ofC s.1 1)=(R:Int)) (hC:zg_ s.2.2.1 (ofC s.1 0)=(C:Int)):∃ t,s.1[j]?=some t∧fcs s j=zp_ s.1 t∧(fcs s j).length=2∧oN s j+stN s j≤R ∧
  ∀ i,i<2→MatP (mpS s j i) (stN s j) (stN s ((fcs s j).getD i 0))∧(fcs s j)[i]?=some ((fcs s j).getD i 0)∧(∃ u,s.1[(fcs s j).getD i 0]?=some u)∧oN s ((fcs s j).getD i 0)+stN s ((fcs s j).getD i 0)≤C:=by
 obtain ⟨hCx,hp,hS⟩:=z1u_ hk h
 obtain ⟨t,ht,hl⟩:=zqa_ hj
 have hl2:t.length=2:=by omega
 have hf:fcs s j=zp_ s.1 t:=by unfold fcs; rw [List.getD_eq_getElem?_getD,ht]; rfl
 have hfl:=zay_ s.1 t
 rw [if_pos (by omega),hl2] at hfl
 have o1:=zcv_ hS ht (d:=1) hl
 refine ⟨t,ht,hf,by rw [hf]; exact hfl,by omega,fun i hi=>?_⟩
 rw [hf]
 have hF:(zp_ s.1 t).getD i 0=posC s.1 (z1m_ t i):=by
  rw [List.getD_eq_getElem?_getD]
  unfold zp_ z1e_
  rw [if_pos (by omega),List.getElem?_map,List.getElem?_map,List.getElem?_range (by omega)]; rfl
 have hmem:=hCx.face t (List.mem_of_getElem? ht) (by omega) i (by omega)
 have hdl:=zhf_ (s:=t) (k:=i) (by omega)
 have hu:s.1[(zp_ s.1 t).getD i 0]?=some (z1m_ t i):=by rw [hF]; exact zky_ hmem
 have o2:=zcv_ hS hu (d:=0) (by omega)
 have hg:(zp_ s.1 t)[i]?=some ((zp_ s.1 t).getD i 0):=by
  rw [List.getD_eq_getElem?_getD,List.getElem?_eq_getElem (by omega)]; rfl
 exact ⟨(zl8_ hk hs h ht (by omega)).2,hg,⟨_,hu⟩,by omega⟩
theorem zww_ {k:Nat} (hk:KK≤k) {s:She} (hs:smallSh s) (h:sheB k s=true) {j:Nat} (hj:j∈ofC s.1 1) {R C:Nat} (hR:zg_ s.2.2.1 (ofC s.1 1)=(R:Int)) (hC:zg_ s.2.2.1 (ofC s.1 0)=(C:Int)) (hR2:R≤32) (hC2:C≤32) {Q:List Int} (hQ:Q.length=R*C) (k1 x30 x31:Int) (q1 q3:List Int) (a1 a2 a3 b1 b2:Int) (E:Int→Int→Int→List Int→List Int→List Int→She→Int→Int→Int→Int→Int→Int→Option Mat) :
  z6h_ k k k1 (j:Int) x30 x31 ((fcs s j).length:Int) 0 q1 ((fcs s j).map fun i:Nat=>(i:Int)) q3 Q s a1 a2 a3 b1 b2 (C:Int) E=E k1 x30 x31 q1 q3 (insF s C j (fcs s j) (fcs s j).length Q) s a1 a2 a3 b1 b2 (C:Int):=by
 have hK:=zk_
 obtain ⟨hCx,hp,hS⟩:=z1u_ hk h
 obtain ⟨t,ht,hf,hl,hT,hface⟩:=zcw_ hk hs h hj hR hC
 refine z20_ (S:=List Int) (L:=fun n i q=>z6h_ k n k1 (j:Int) x30 x31 ((fcs s j).length:Int) i q1 ((fcs s j).map fun i:Nat=>(i:Int)) q3 q s a1 a2 a3 b1 b2 (C:Int) E) (b:=(fcs s j).length) (st:=fun i=>insF s C j (fcs s j) i Q) ?_ ?_ (n:=k) (by omega)
 ·intro n i hi
  have hlt:(i:Int)<((fcs s j).length:Int):=by omega
  have hw:=zj_ (i:=i) (by omega)
  obtain ⟨hm,hg,⟨u,hu⟩,hL⟩:=hface i (by omega)
  have hF:((fcs s j).map fun i:Nat=>(i:Int))[i]?=some (((fcs s j).getD i 0:Nat):Int):=by rw [List.getElem?_map,hg]; rfl
  have hd:=zw9_ hk hs h ht (i:=i) (by rw [← hf]; omega)
  have c1:=zlj_ hk hCx hS ht
  have c2:=zlj_ hk hCx hS hu
  simp only [z6h_,hlt,decide_true,if_true,Int.natCast_nonneg,Int.toNat_natCast,List.length_map,hi,and_self,hF,Option.bind_some,hd,c1,c2]
  rw [hm.rows,zwu_ hk hp hm hR2 hC2 hT hL (by rw [zhq_]; exact hQ)]
  simp only [hw,insF]
 ·intro n
  simp only [z6h_,Int.lt_irrefl,decide_false,Bool.false_eq_true,if_false]
theorem zwx_ {k:Nat} (hk:KK≤k) {s:She} (hs:smallSh s) (h:sheB k s=true) {j n7:Nat} (hj:j∈ofC s.1 1) {R C:Nat} (hR:zg_ s.2.2.1 (ofC s.1 1)=(R:Int)) (hC:zg_ s.2.2.1 (ofC s.1 0)=(C:Int)) (hR2:R≤32) (hC2:C≤32) {Q:List Int} (hQ:Q.length=R*C) (k1:Int) (q1 q3:List Int) (hq:q1[n7]?=some (j:Int)) (a1 a2 a3 b1 b2:Int) (E:She→Int→Int→List Int→List Int→List Int→Int→Int→Int→Int→Int→Int→Option Mat) :
  z6n_ k k s k1 (n7:Int) (oN s j:Int) 0 q1 ((fcs s j).map fun i:Nat=>(i:Int)) q3 Q a1 a2 a3 b1 b2 (C:Int) E=E s k1 (n7:Int) q1 q3 (insF s C j (fcs s j) (fcs s j).length Q) a1 a2 a3 b1 b2 (C:Int):=by
 have hK:=zk_
 obtain ⟨hCx,hp,hS⟩:=z1u_ hk h
 obtain ⟨t,ht,hf,hl,hT,hface⟩:=zcw_ hk hs h hj hR hC
 have hqn:n7<q1.length:=(List.getElem?_eq_some_iff.1 hq).1
 refine z20_ (S:=List Int) (L:=fun n i q=>z6n_ k n s k1 (n7:Int) (oN s j:Int) i q1 ((fcs s j).map fun i:Nat=>(i:Int)) q3 q a1 a2 a3 b1 b2 (C:Int) E) (b:=(fcs s j).length) (st:=fun i=>insF s C j (fcs s j) i Q) ?_ ?_ (n:=k) (by omega)
 ·intro n i hi
  have hlt:(i:Int)<((fcs s j).length:Int):=by omega
  have hw:=zj_ (i:=i) (by omega)
  obtain ⟨hm,hg,⟨u,hu⟩,hL⟩:=hface i (by omega)
  have hF:((fcs s j).map fun i:Nat=>(i:Int))[i]?=some (((fcs s j).getD i 0:Nat):Int):=by rw [List.getElem?_map,hg]; rfl
  have hd:=zw7_ hk hs h ht (i:=i) (by rw [← hf]; omega)
  have c2:=zli_ hk hCx hS hu
  simp only [z6n_,hlt,decide_true,if_true,Int.natCast_nonneg,Int.toNat_natCast,List.length_map,hi,hqn,hq,and_self,hF,Option.bind_some,hd,c2,zwo_ hp]
  rw [zwv_ hk hp hm (sgnM s.2.1 i) hR2 hC2 hT hL (by rw [zhq_]; exact hQ)]
  simp only [hw,insF]
 ·intro n
  simp only [z6n_,List.length_map,Int.lt_irrefl,decide_false,Bool.false_eq_true,if_false]
def cobM (s:She) (R C:Nat):Mat:=(s.2.1,(R:Int),(C:Int),insA s C (ofC s.1 1) (ofC s.1 1).length (List.replicate (R*C) 0))
theorem zqb_ {k:Nat} (hk:KK≤k) {s:She} (h:sheB k s=true) (d:Nat) (hd:d<4):∃ R:Nat,zg_ s.2.2.1 (ofC s.1 (d:Int))=(R:Int)∧R≤32:=by
 obtain ⟨hCx,hp,hS⟩:=z1u_ hk h
 have h1:=z6t_ hS (ofC s.1 (d:Int)) (fun i hi=>z6s_ hi)
 have h2:zg_ s.2.2.1 (ofC s.1 (d:Int))≤32:=by
  unfold sheB at h
  simp only [Bool.and_eq_true] at h
  have:=h.2.2.1
  unfold stB at this
  rw [Bool.and_eq_true,List.all_eq_true] at this
  exact of_decide_eq_true (this.2 d (List.mem_range.2 hd))
 exact ⟨(zg_ s.2.2.1 (ofC s.1 (d:Int))).toNat,by omega,by omega⟩
theorem zwy_ {k:Nat} (hk:KK≤k) {s:She} (hs:smallSh s) (h:sheB k s=true) {R C:Nat} (hR:zg_ s.2.2.1 (ofC s.1 1)=(R:Int)) (hC:zg_ s.2.2.1 (ofC s.1 0)=(C:Int)) (hR2:R≤32) (hC2:C≤32):zfi_ k s 0=some (cobM s R C):=by
 have hK:=zk_
 obtain ⟨hCx,hp,hS⟩:=z1u_ hk h
 have hcl:=hCx.len
 have hol:=z89_ s.1 1
 have w1:z0_ (0+1)=1:=w_id (by omega) (by omega)
 unfold zfi_
 simp only [w1,zct_ hk (z3n_ hCx) hS (show -1000≤(1:Int)∧(1:Int)≤1000 by omega),zct_ hk (z3n_ hCx) hS (show -1000≤(0:Int)∧(0:Int)≤1000 by omega),hR,hC,Option.bind_some,zwl_ hk s.2.1 hR2 hC2,zhh_ hk (z3n_ hCx) (show -1000≤(1:Int)∧(1:Int)≤1000 by omega),List.length_map]
 refine z20_ (S:=List Int) (L:=fun n i q=>z7k_ k n 0 ((ofC s.1 1).length:Int) i ((ofC s.1 1).map fun i:Nat=>(i:Int)) [] q s 0 0 0 s.2.1 (R:Int) (C:Int) (fun q_23 q_24 v_4a_25 v_4ba_26 v_4bba_27 v_5a_28 v_5ba_29 v_5bba_30=>some (v_5a_28,(v_5ba_29,(v_5bba_30,q_24))))) (b:=(ofC s.1 1).length) (st:=fun n=>insA s C (ofC s.1 1) n (List.replicate (R*C) 0)) ?_ ?_ (n:=k) (by omega)
 ·intro m n hn
  have hlt:(n:Int)<((ofC s.1 1).length:Int):=by omega
  have hw:=zj_ (i:=n) (by omega)
  have hg:(ofC s.1 1)[n]?=some ((ofC s.1 1).getD n 0):=by rw [List.getD_eq_getElem?_getD,List.getElem?_eq_getElem hn]; rfl
  have hmem:(ofC s.1 1).getD n 0∈ofC s.1 1:=List.mem_of_getElem? hg
  have hF:((ofC s.1 1).map fun i:Nat=>(i:Int))[n]?=some (((ofC s.1 1).getD n 0:Nat):Int):=by rw [List.getElem?_map,hg]; rfl
  obtain ⟨t,ht,hf,hl,hT,hface⟩:=zcw_ hk hs h hmem hR hC
  have hfi:=zpv_ hk hCx ht
  rw [← hf] at hfi
  simp only [z7k_,hlt,decide_true,if_true,Int.natCast_nonneg,Int.toNat_natCast,List.length_map,hn,and_self,hF,Option.bind_some,Int.lt_irrefl,decide_false,Bool.false_eq_true,if_false,hfi]
  rw [zww_ hk hs h hmem hR hC hR2 hC2 (by rw [zhr_,List.length_replicate])]
  simp only [hw,insA]
 ·intro m
  simp only [z7k_,Int.lt_irrefl,decide_false,Bool.false_eq_true,if_false]
  rfl
theorem zwz_ {k:Nat} (hk:KK≤k) {s:She} (hs:smallSh s) (h:sheB k s=true) {R C:Nat} (hR:zg_ s.2.2.1 (ofC s.1 1)=(R:Int)) (hC:zg_ s.2.2.1 (ofC s.1 0)=(C:Int)) (hR2:R≤32) (hC2:C≤32):zak_ k s 0=some (cobM s R C):=by
 have hK:=zk_
 obtain ⟨hCx,hp,hS⟩:=z1u_ hk h
 have hcl:=hCx.len
 have hol:=z89_ s.1 1
 have w1:z0_ (0+1)=1:=w_id (by omega) (by omega)
 unfold zak_
 simp only [w1,zcs_ hk (z3n_ hCx) hS (show -1000≤(1:Int)∧(1:Int)≤1000 by omega),zcs_ hk (z3n_ hCx) hS (show -1000≤(0:Int)∧(0:Int)≤1000 by omega),hR,hC,Option.bind_some,zwm_ s.2.1 hR2 hC2,zkz_ hk (z3n_ hCx) (show -1000≤(1:Int)∧(1:Int)≤1000 by omega)]
 refine z20_ (S:=List Int) (L:=fun n i q=>z7z_ k n s 0 i ((ofC s.1 1).map fun i:Nat=>(i:Int)) [] q 0 0 0 s.2.1 (R:Int) (C:Int) (fun q_24 q_25 v_4a_26 v_4ba_27 v_4bba_28 v_5a_29 v_5ba_30 v_5bba_31=>some (v_5a_29,(v_5ba_30,(v_5bba_31,q_25))))) (b:=(ofC s.1 1).length) (st:=fun n=>insA s C (ofC s.1 1) n (List.replicate (R*C) 0)) ?_ ?_ (n:=k) (by omega)
 ·intro m n hn
  have hlt:(n:Int)<((ofC s.1 1).length:Int):=by omega
  have hw:=zj_ (i:=n) (by omega)
  have hg:(ofC s.1 1)[n]?=some ((ofC s.1 1).getD n 0):=by rw [List.getD_eq_getElem?_getD,List.getElem?_eq_getElem hn]; rfl
  have hmem:(ofC s.1 1).getD n 0∈ofC s.1 1:=List.mem_of_getElem? hg
  have hF:((ofC s.1 1).map fun i:Nat=>(i:Int))[n]?=some (((ofC s.1 1).getD n 0:Nat):Int):=by rw [List.getElem?_map,hg]; rfl
  obtain ⟨t,ht,hf,hl,hT,hface⟩:=zcw_ hk hs h hmem hR hC
  have hfi:=zpu_ hk hCx ht
  rw [← hf] at hfi
  have c1:=zli_ hk hCx hS ht
  simp only [z7z_,hlt,decide_true,if_true,Int.natCast_nonneg,Int.toNat_natCast,List.length_map,hn,and_self,hF,Option.bind_some,Int.le_refl,hfi,c1]
  rw [zwx_ hk hs h hmem hR hC hR2 hC2 (by rw [zhr_,List.length_replicate]) _ _ _ hF]
  simp only [hw,insA]
 ·intro m
  simp only [z7z_,List.length_map,Int.lt_irrefl,decide_false,Bool.false_eq_true,if_false]
  rfl
theorem zx0_ {pre:List (List UInt8)} (h:pre≠[]) (x sep:List UInt8):Lib.join (pre++[x]) sep=Lib.join pre sep++sep++x:=by
 cases pre with
 | nil=>exact absurd rfl h
 | cons y r =>
  rw [List.cons_append,Lib.join_cons,Lib.join_cons]
  unfold Lib.joinTail
  simp
theorem zx1_ {u j:Nat} (h:u<10 ^ j) (hj:1≤j):(Lib.decDigits u).length≤j:=by
 by_cases h0:u=0
 ·subst h0; rw [Lib.decDigits,dif_pos (by omega)]; exact hj
 ·have:=zla_ j u h
  unfold revD at this
  rw [if_neg h0] at this
  simpa using this
theorem zqc_ {c:UInt8} {B:Nat}:∀ (r:List (List UInt8)),(∀ w∈r,w.length≤B)→(Lib.joinTail [c] r).length≤r.length*(B+1)
 | [],_=>by simp [Lib.joinTail]
 | y::r,h=>by
  have e:Lib.joinTail [c] (y::r)=[c]++y++Lib.joinTail [c] r:=by simp [Lib.joinTail]
  have h1:=zqc_ (c:=c) r fun w hw=>h w (by simp [hw])
  have h2:=h y (by simp)
  rw [e,List.length_append,List.length_append,List.length_singleton,List.length_cons,Nat.succ_mul]
  omega
theorem zll_ {c:UInt8} {B:Nat} (ws:List (List UInt8)) (h:∀ w∈ws,w.length≤B):(Lib.join ws [c]).length≤ws.length*(B+1):=by
 cases ws with
 | nil=>rw [Lib.join_nil]; simp
 | cons y r =>
  have h1:=zqc_ (c:=c) (B:=B) r fun w hw=>h w (by simp [hw])
  have h2:=h y (by simp)
  rw [Lib.join_cons,List.length_append,List.length_cons,Nat.succ_mul]
  omega
theorem zx2_ {sep:List UInt8} {ws:List (List UInt8)} (h:∀ w∈ws,w≠[]):Lib.join ws sep=[]↔ws=[]:=by
 cases ws with
 | nil=>rw [Lib.join_nil]; simp
 | cons y r =>
  rw [Lib.join_cons]
  exact ⟨fun z=>absurd (List.append_eq_nil_iff.1 z).1 (h y (by simp)),fun z=>by cases z⟩
theorem zx3_ (x sep:List UInt8):Lib.join [x] sep=x:=by rw [Lib.join_cons]; simp [Lib.joinTail]
theorem zx4_ (u:Nat):Lib.decDigits u≠[]:=by
 rw [Lib.decDigits]
 split <;> simp
theorem zqd_ {n:Int} (h:0≤n∧n<10000000):(Lib.itoa n).length≤7∧Lib.itoa n≠[]:=by
 unfold Lib.itoa
 rw [if_neg (by omega)]
 exact ⟨zx1_ (by omega) (by omega),zx4_ _⟩
def z4s_ (l:List Int):List UInt8:=if l=[] then [45] else Lib.join (l.map Lib.itoa) [44]
def fitL (l:List Int):Prop:=l.length≤64∧∀ x∈l,0≤x∧x<10000000
theorem zhs_ {l:List Int} (h:fitL l):∀ w∈l.map Lib.itoa,w.length≤7∧w≠[]:=fun w hw=>by
 obtain ⟨x,hx,rfl⟩:=List.mem_map.1 hw
 exact zqd_ (h.2 x hx)
theorem zx5_ {l:List Int} (h:fitL l):(z4s_ l).length≤512∧z4s_ l≠[]:=by
 unfold z4s_
 by_cases e:l=[]
 ·rw [if_pos e]; simp
 ·rw [if_neg e]
  have h1:=zll_ (c:=44) (l.map Lib.itoa) fun w hw=>(zhs_ h w hw).1
  rw [List.length_map] at h1
  have:=h.1
  refine ⟨by omega,fun z=>e ?_⟩
  have:=(zx2_ fun w hw=>(zhs_ h w hw).2).1 z
  exact List.map_eq_nil_iff.1 this
theorem zx6_ {k:Nat} (hk:KK≤k) {l:List Int} (h:fitL l):z7x_ k l=some (z4s_ l):=by
 have hK:=zk_
 obtain ⟨hl,hx⟩:=h
 unfold z7x_ z4s_
 by_cases e:l=[]
 ·subst e; simp
 rw [if_neg e]
 have hpos:0<l.length:=List.length_pos_iff.2 e
 rw [decide_eq_false (by omega),if_neg (by simp)]
 refine z1z_ (A:=List UInt8) (L:=fun n i out=>z7w_ k n l out i (fun out_5=>some out_5)) (I:=fun pre out=>out=Lib.join (pre.map Lib.itoa) [44]) (G:=fun _ _=>some (Lib.join (l.map Lib.itoa) [44])) l ?_ ?_ k (by omega) [] (by rw [List.map_nil,Lib.join_nil])
 ·intro n pre x post out hxp ho ih hg hlt
  have hw:=zj_ (i:=pre.length) (by omega)
  have hxx:=hx x (List.mem_of_getElem? hg)
  have hi:=(zqd_ hxx).1
  have hpre:fitL pre:=⟨by omega,fun y hy=>hx y (by rw [hxp]; simp [hy])⟩
  have hol:out.length≤512:=by
   rw [ho]
   have h1:=zll_ (c:=44) (pre.map Lib.itoa) fun w hw=>(zhs_ hpre w hw).1
   rw [List.length_map] at h1
   have:=hpre.1
   omega
  have b1:out.length+1≤9223372036854775807:=by omega
  have b2:(out++[(44:UInt8)]).length+(Lib.itoa x).length≤9223372036854775807:=by rw [List.length_append,List.length_singleton]; omega
  have b3:out.length+(Lib.itoa x).length≤9223372036854775807:=by omega
  simp only [z7w_,hlt,decide_true,if_true,List.length_singleton,b1,b2,b3,Int.natCast_nonneg,Int.toNat_natCast,hg,Option.bind_some,zwc_ hk (show -9223372036854775808≤x by omega) (show x≤9223372036854775807 by omega),hw]
  by_cases c:pre=[]
  ·subst c
   rw [decide_eq_false (by simp),if_neg (by simp)]
   refine ih _ ?_
   rw [ho,List.map_nil,Lib.join_nil,List.nil_append,List.nil_append,List.map_cons,List.map_nil,zx3_]
  ·have:0<pre.length:=List.length_pos_iff.2 c
   rw [decide_eq_true (by omega),if_pos rfl]
   refine ih _ ?_
   rw [List.map_append,List.map_cons,List.map_nil,zx0_ (by simpa using c),ho]
 ·intro n out ho
  subst ho
  simp only [z7w_,Int.lt_irrefl,decide_false,Bool.false_eq_true,if_false]
theorem zx7_ {k:Nat} (hk:KK≤k) {l:List Int} (h:fitL l):zfr_ k l=some (z4s_ l):=by
 have hK:=zk_
 have hL:=z1i_
 have hwf:=zhs_ h
 obtain ⟨hl,hx⟩:=h
 unfold zfr_ z4s_
 rw [decide_eq_false (by omega),if_neg (by simp)]
 have hc:zfp_ k l ()=some false:=by
  unfold zfp_ zjx_
  rw [z7h_ (L:=fun n i=>z9o_ k n l () (l.length:Int) i (some (-1))) (p:=fun y=>!decide (-1000000000000≤y∧y≤1000000000000)) l ?_ ?_ (n:=k) (by omega)]
  ·rw [Option.bind_some,zax_]
   congr 1
   rw [List.any_eq_false]
   intro y hy
   have:=hx y hy
   rw [decide_eq_true (by omega)]; simp
  ·intro n i y hi hlt
   have hw:=zj_ (i:=i) (by omega)
   simp only [z9o_,zjw_,zjv_,z47_,hlt,decide_true,if_true,Int.natCast_nonneg,Int.toNat_natCast,hi,Option.bind_some,hw]
  ·intro n
   simp [z9o_]
 rw [hc]
 simp only [Option.bind_some,Bool.false_eq_true,if_false]
 by_cases e:l=[]
 ·subst e; simp
 rw [if_neg e]
 have hpos:0<l.length:=List.length_pos_iff.2 e
 rw [decide_eq_false (by omega),if_neg (by simp)]
 refine z1z_ (A:=List (List UInt8)) (L:=fun n i q=>z9p_ k n l (l.length:Int) i q (fun q_5=>(zjy_ [44] q_5).bind fun y_6=>some y_6.1.1)) (I:=fun pre q=>q=pre.map Lib.itoa) (G:=fun _ _=>some (Lib.join (l.map Lib.itoa) [44])) l ?_ ?_ k (by omega) [] rfl
 ·intro n pre x post q hxp hq ih hg hlt
  have hw:=zj_ (i:=pre.length) (by omega)
  have hxx:=hx x (List.mem_of_getElem? hg)
  have b:(q.length+1)*16≤LIM:=by rw [hq,List.length_map]; omega
  simp only [z9p_,hlt,decide_true,if_true,Int.natCast_nonneg,Int.toNat_natCast,hg,Option.bind_some,zwd_ (show -9223372036854775808≤x by omega) (show x≤9223372036854775807 by omega),List.length_singleton,b,hw]
  exact ih _ (by rw [hq,List.map_append]; rfl)
 ·intro n q hq
  subst hq
  have h1:=zll_ (c:=44) (l.map Lib.itoa) fun w hw=>(hwf w hw).1
  rw [List.length_map] at h1
  simp only [z9p_,Int.lt_irrefl,decide_false,Bool.false_eq_true,if_false]
  unfold zjy_
  rw [if_pos ⟨by rw [List.length_map]; omega,by omega⟩]
  rfl
instance dec_Problem_1:DecidableEq (List UInt8×List UInt8):=inferInstance
instance dec_Problem:DecidableEq (Int×List UInt8×List UInt8):=inferInstance
def z8d_ (a:Int×List UInt8×List UInt8):Nat:=(List.length (a.2.1))+(List.length (a.2.2))
instance dec_ProblemS:DecidableEq (List (Int×List UInt8×List UInt8)):=inferInstance
def z6w_ (a:List (Int×List UInt8×List UInt8)):Nat:=a.length+sumL z8d_ a
theorem zqe_ {s:She} (hp:2≤s.2.1∧s.2.1≤251) {C j:Nat} {F:List Nat} {Q:List Int} (h:inP s.2.1 Q):∀ i,(∀ x,x<i→∃ R' C',MatP (mpS s j x) R' C'∧C'=stN s (F.getD x 0))→inP s.2.1 (insF s C j F i Q)
 | 0,_=>h
 | i+1,hm=>by
  obtain ⟨R',C',h1,h2⟩:=hm i (by omega)
  unfold insF
  rw [← h2]
  exact zq8_ hp (zwp_ hp i) h1 (zqe_ hp h i fun x hx=>hm x (by omega)) _
theorem zqf_ {k:Nat} (hk:KK≤k) {s:She} (hs:smallSh s) (h:sheB k s=true) {R C:Nat} (hR:zg_ s.2.2.1 (ofC s.1 1)=(R:Int)) (hC:zg_ s.2.2.1 (ofC s.1 0)=(C:Int)) {Q:List Int} (hQ:inP s.2.1 Q):∀ n,n≤(ofC s.1 1).length→inP s.2.1 (insA s C (ofC s.1 1) n Q)
 | 0,_=>hQ
 | n+1,hn=>by
  obtain ⟨hCx,hp,hS⟩:=z1u_ hk h
  have hg:(ofC s.1 1)[n]?=some ((ofC s.1 1).getD n 0):=by rw [List.getD_eq_getElem?_getD,List.getElem?_eq_getElem (by omega)]; rfl
  obtain ⟨t,ht,hf,hl,hT,hface⟩:=zcw_ hk hs h (List.mem_of_getElem? hg) hR hC
  unfold insA
  exact zqe_ hp (zqf_ hk hs h hR hC hQ n (by omega)) _ fun x hx=>⟨_,_,(hface x (by omega)).1,rfl⟩
theorem zqg_ {k:Nat} (hk:KK≤k) {s:She} (hs:smallSh s) (h:sheB k s=true) {R C:Nat} (hR:zg_ s.2.2.1 (ofC s.1 1)=(R:Int)) (hC:zg_ s.2.2.1 (ofC s.1 0)=(C:Int)) (hR2:R≤32) (hC2:C≤32):MatP (cobM s R C) R C:=by
 obtain ⟨hCx,hp,hS⟩:=z1u_ hk h
 have hin:=zqf_ hk hs h hR hC (Q:=List.replicate (R*C) 0) (fun x hx=>by have:=List.eq_of_mem_replicate hx; subst this; omega) (ofC s.1 1).length (Nat.le_refl _)
 exact ⟨rfl,rfl,hR2,hC2,by show (insA _ _ _ _ _).length=_; rw [zhr_,List.length_replicate],hp,fun x hx=>by have:=hin x hx; omega⟩
def apT (m:Mat) (v:List Int) (C i t:Nat):Int:=m.2.2.2.getD (i*C+t) 0*v.getD t 0
def appV (m:Mat) (v:List Int) (C:Nat) (n:Nat):List Int:=(List.range n).map fun i=>sumN (apT m v C i) C % m.1
theorem zqh_ (m:Mat) (v:List Int) (C n:Nat):appV m v C (n+1)=appV m v C n++[sumN (apT m v C n) C % m.1]:=by
 unfold appV; rw [List.range_succ,List.map_append]; rfl
theorem zht_ (m:Mat) (v:List Int) (C n:Nat):(appV m v C n).length=n:=by simp [appV]
theorem zhu_ {m:Mat} {R C:Nat} (hm:MatP m R C) {v:List Int} (hv:∀ x∈v,0≤x∧x≤m.1-1) (i t:Nat):0≤apT m v C i t∧apT m v C i t≤62500:=by
 have hp:=hm.prime
 have h1:=zpz_ hm (i*C+t)
 have h2:0≤v.getD t 0∧v.getD t 0≤250:=by
  rw [List.getD_eq_getElem?_getD]
  cases h:v[t]? with
  | none=>exact ⟨by simp,by simp⟩
  | some x=>have:=hv x (List.mem_of_getElem? h); simp only [Option.getD_some]; omega
 unfold apT
 exact ⟨Int.mul_nonneg h1.1 h2.1,Int.le_trans (Int.mul_le_mul h1.2 h2.2 h2.1 (by omega)) (by omega)⟩
theorem zx8_ {k:Nat} (hk:KK≤k) {m:Mat} {R C:Nat} (hm:MatP m R C) {v:List Int} (hl:v.length=C) (hv:∀ x∈v,0≤x∧x≤m.1-1):zfl_ k m v=some (appV m v C R):=by
 have hK:=zk_
 have hL:=z1i_
 have hR:=hm.r32
 have hC:=hm.c32
 unfold zfl_
 rw [hm.rows]
 refine z20_ (S:=List Int) (L:=fun n i q=>z9m_ k n v (R:Int) i q m (fun q_4=>some q_4)) (b:=R) (st:=appV m v C) ?_ ?_ (n:=k) (by omega)
 ·intro n i hi
  have hlt:(i:Int)<(R:Int):=by omega
  have hw:=zj_ (i:=i) (by omega)
  have hrow:zfj_ m (i:Int)=some (rowM m.2.2.2 C i):=by
   have h1:(i+1)*C≤R*C:=Nat.mul_le_mul_right _ hi
   have h2:R*C≤32*32:=Nat.mul_le_mul hR hC
   have h3:(i+1)*C=i*C+C:=Nat.succ_mul _ _
   unfold zfj_
   rw [hm.cols,zcu_ (by omega) hC,hw,zcu_ (i:=i+1) (by omega) hC,if_pos ⟨by omega,by omega,by rw [hm.len]; omega⟩,Int.toNat_natCast,Int.toNat_natCast,show (i+1)*C-i*C=C by omega]
   rfl
  have hd:=zw4_ hk (K:=C) (zw1_ hm.len hi) hl hC hm.prime (f:=apT m v C i) (fun t=>zhu_ hm hv i t) (fun t x y hx hy=>by
   have h1:=zw5_ hm i t hx
   rw [h1]
   unfold apT
   rw [List.getD_eq_getElem?_getD (l:=v),hy]; rfl)
  have hlim:((appV m v C i).length+1)*8≤LIM:=by rw [zht_]; omega
  simp only [z9m_,hlt,decide_true,if_true,hrow,hd,Option.bind_some,List.length_singleton,hlim,hw,zqh_]
 ·intro n
  simp only [z9m_,Int.lt_irrefl,decide_false,Bool.false_eq_true,if_false]
theorem zx9_ {k:Nat} (hk:KK≤k) {m:Mat} {R C:Nat} (hm:MatP m R C) {v:List Int} (hl:v.length=C) (hv:∀ x∈v,0≤x∧x≤m.1-1):zcg_ k m v=some (appV m v C R):=by
 have hK:=zk_
 have hL:=z1i_
 have hR:=hm.r32
 have hC:=hm.c32
 have hp:=hm.prime
 unfold zcg_
 have row:∀ (i:Nat),i<R→∀ (q:List Int) (E:Mat→List Int→Int→Int→List Int→Option (List Int)),z80_ k k m v (i:Int) 0 0 q E=E m v (i:Int) (sumN (apT m v C i) C) q:=by
  intro i hi q E
  refine z20_ (S:=Int) (L:=fun n t z=>z80_ k n m v (i:Int) z t q E) (b:=C) (st:=sumN (apT m v C i)) ?_ ?_ (n:=k) (by omega)
  ·intro n t ht
   have hlt:(t:Int)<m.2.2.1:=by rw [hm.cols]; omega
   have hw:=zj_ (i:=t) (by omega)
   have hgv:v[t]?=some (v.getD t 0):=by rw [List.getD_eq_getElem?_getD,List.getElem?_eq_getElem (by omega)]; rfl
   have hb:=zhu_ hm hv i t
   have hsum:=zl6_ (zhu_ hm hv i) t
   have w1:z0_ (m.2.2.2.getD (i*C+t) 0*v.getD t 0)=apT m v C i t:=w_id (x:=apT m v C i t) (by omega) (by omega)
   have w2:z0_ (sumN (apT m v C i) t+apT m v C i t)=sumN (apT m v C i) t+apT m v C i t:=w_id (by omega) (by omega)
   simp only [z80_,hlt,decide_true,if_true]
   simp only [hm.cols,zlk_ hm hi ht,zl7_ hm hi ht,Int.natCast_nonneg,if_true,Int.toNat_natCast,Option.bind_some,hgv,w1,w2,hw,sumN]
  ·intro n
   have hlt:¬ (C:Int)<m.2.2.1:=by rw [hm.cols]; omega
   simp only [z80_,hlt,decide_false,Bool.false_eq_true,if_false]
 refine z20_ (S:=List Int) (L:=fun n i q=>zal_ k n m v i q (fun q_7=>some q_7)) (b:=R) (st:=appV m v C) ?_ ?_ (n:=k) (by omega)
 ·intro n i hi
  have hlt:(i:Int)<m.2.1:=by rw [hm.rows]; omega
  have hw:=zj_ (i:=i) (by omega)
  have hlim:((appV m v C i).length+1)*8≤LIM:=by rw [zht_]; omega
  have hp0:¬ m.1=0:=by omega
  have hsum:=zl6_ (zhu_ hm hv i) C
  have ht:Int.tmod (sumN (apT m v C i) C) m.1=sumN (apT m v C i) C % m.1:=Int.tmod_eq_emod_of_nonneg hsum.1
  simp only [zal_,hlt,decide_true,if_true,row i hi,hp0,if_false,List.length_singleton,hlim,hw,ht,zqh_]
 ·intro n
  have hlt:¬ (R:Int)<m.2.1:=by rw [hm.rows]; omega
  simp only [zal_,hlt,decide_false,Bool.false_eq_true,if_false]
def nzB (v:List Int):Bool:=v.any fun x=>!decide (x=0)
theorem zxa_ {k:Nat} (hk:KK≤k) {v:List Int} (hl:v.length≤1048576):zfo_ k v=some (!nzB v):=by
 have hK:=zk_
 unfold zfo_ zju_ zjt_ nzB
 rw [z7h_ (L:=fun n i=>z9n_ k n v () (v.length:Int) i (some (-1))) (p:=fun x=>!decide (x=0)) v ?_ ?_ (n:=k) (by omega)]
 ·rw [Option.bind_some,Option.bind_some,zax_]
 ·intro n i x hi hlt
  have hw:=zj_ (i:=i) (by omega)
  simp only [z9n_,zjs_,hlt,decide_true,if_true,Int.natCast_nonneg,Int.toNat_natCast,hi,Option.bind_some,hw]
 ·intro n
  simp [z9n_]
theorem zxb_ {k:Nat} (hk:KK≤k) {v:List Int} (hl:v.length≤1048576):zch_ k v=some (!nzB v):=by
 have hK:=zk_
 unfold zch_
 have:=z3l_ (L:=fun m i=>zam_ k m v i (some true)) (b:=v.length) (p:=fun i=>decide (v.getD i 0=0)) (r:=some false) (e:=some true) ?_ ?_ (n:=k) (by omega)
 ·rw [this]
  have e:(List.range v.length).all (fun i=>decide (v.getD i 0=0))=!nzB v:=by
   unfold nzB
   rw [Bool.eq_iff_iff,List.all_eq_true,Bool.not_eq_true',List.any_eq_false]
   constructor
   ·intro h x hx
    obtain ⟨i,hi⟩:=List.getElem?_of_mem hx
    have hlt:=(List.getElem?_eq_some_iff.1 hi).1
    have:=h i (List.mem_range.2 hlt)
    rw [List.getD_eq_getElem?_getD,hi] at this
    simpa using this
   ·intro h i hi
    have hlt:=List.mem_range.1 hi
    have:=h v[i] (List.getElem_mem hlt)
    rw [List.getD_eq_getElem?_getD,List.getElem?_eq_getElem hlt]
    simpa using this
  rw [e]
  cases nzB v <;> rfl
 ·intro m i hi
  have hlt:(i:Int)<(v.length:Int):=by omega
  have hw:=zj_ (i:=i) (by omega)
  have hg:v[i]?=some (v.getD i 0):=by rw [List.getD_eq_getElem?_getD,List.getElem?_eq_getElem hi]; rfl
  simp only [zam_,hlt,decide_true,if_true,Int.natCast_nonneg,Int.toNat_natCast,hg,Option.bind_some,hw]
  cases decide (v.getD i 0=0) <;> simp
 ·intro m
  simp only [zam_,Int.lt_irrefl,decide_false,Bool.false_eq_true,if_false]
def slV (s:She) (V:List Int) (j:Nat):List Int:=(V.drop (oN s j)).take (stN s j)
def badL (s:She) (V:List Int) (n:Nat):List Int:=(((ofC s.1 1).take n).filter fun j=>nzB (slV s V j)).map fun (j:Nat)=>(j:Int)
theorem zqi_ (s:She) (V:List Int) {n j:Nat} (h:(ofC s.1 1)[n]?=some j):badL s V (n+1)=if nzB (slV s V j)=true then badL s V n++[(j:Int)] else badL s V n:=by
 unfold badL
 rw [List.take_add_one,h,List.filter_append,List.map_append]
 cases e:nzB (slV s V j) <;> simp [e]
theorem zlm_ (s:She) (V:List Int) (n:Nat):(badL s V n).length≤n:=by
 unfold badL
 rw [List.length_map]
 exact Nat.le_trans (List.length_filter_le ..) (by rw [List.length_take]; omega)
theorem zxc_ {s:She} {V:List Int} {n:Nat} {y:Int} (h:y∈badL s V n):0≤y∧y.toNat<s.1.length:=by
 unfold badL at h
 obtain ⟨j,hj,rfl⟩:=List.mem_map.1 h
 have:=z6s_ (List.mem_of_mem_take (List.mem_filter.1 hj).1)
 exact ⟨by omega,by omega⟩
theorem zqj_ {k:Nat} (hk:KK≤k) {s:She} (hs:smallSh s) (h:sheB k s=true) {j:Nat} (hj:j∈ofC s.1 1) {R:Nat} (hR:zg_ s.2.2.1 (ofC s.1 1)=(R:Int)) (hR2:R≤32):∃ t,s.1[j]?=some t∧s.2.2.1[j]?=some (stN s j:Int)∧z0_ ((oN s j:Int)+(stN s j:Int))=((oN s j+stN s j:Nat):Int)∧oN s j+stN s j≤R:=by
 obtain ⟨hCx,hp,hS⟩:=z1u_ hk h
 obtain ⟨t,ht,hl⟩:=zqa_ hj
 obtain ⟨o1,o2,o3⟩:=zcv_ hS ht (d:=1) hl
 obtain ⟨s1,_,_⟩:=z49_ hS (z6s_ hj)
 rw [o2] at s1
 exact ⟨t,ht,s1,by rw [w_id (by omega) (by omega)]; omega,by omega⟩
theorem zxd_ {k:Nat} (hk:KK≤k) {s:She} (hs:smallSh s) (h:sheB k s=true) {R C:Nat} (hR:zg_ s.2.2.1 (ofC s.1 1)=(R:Int)) (hC:zg_ s.2.2.1 (ofC s.1 0)=(C:Int)) (hR2:R≤32) (hC2:C≤32) {v:List Int} (hl:v.length=C) (hv:∀ x∈v,0≤x∧x≤s.2.1-1):zcj_ k s v=some (badL s (appV (cobM s R C) v C R) (ofC s.1 1).length):=by
 have hK:=zk_
 have hLI:=z1i_
 obtain ⟨hCx,hp,hS⟩:=z1u_ hk h
 have hcl:=hCx.len
 have hol:=z89_ s.1 1
 have ha:=zx9_ hk (zqg_ hk hs h hR hC hR2 hC2) hl hv
 unfold zcj_
 rw [zwz_ hk hs h hR hC hR2 hC2]
 simp only [Option.bind_some]
 rw [show ((cobM s R C).1,(cobM s R C).2.1,(cobM s R C).2.2.1,(cobM s R C).2.2.2)=cobM s R C from rfl,ha]
 simp only [Option.bind_some,zkz_ hk (z3n_ hCx) (show -1000≤(1:Int)∧(1:Int)≤1000 by omega)]
 have hVl:=zht_ (cobM s R C) v C R
 generalize appV (cobM s R C) v C R=V at *
 refine z20_ (S:=List Int) (L:=fun n i q=>z82_ k n s i V ((ofC s.1 1).map fun i:Nat=>(i:Int)) q (fun q_13=>some q_13)) (b:=(ofC s.1 1).length) (st:=badL s V) ?_ ?_ (n:=k) (by omega)
 ·intro m n hn
  have hlt:(n:Int)<((ofC s.1 1).length:Int):=by omega
  have hw:=zj_ (i:=n) (by omega)
  have hg:(ofC s.1 1)[n]?=some ((ofC s.1 1).getD n 0):=by rw [List.getD_eq_getElem?_getD,List.getElem?_eq_getElem hn]; rfl
  have hmem:(ofC s.1 1).getD n 0∈ofC s.1 1:=List.mem_of_getElem? hg
  have hF:((ofC s.1 1).map fun i:Nat=>(i:Int))[n]?=some (((ofC s.1 1).getD n 0:Nat):Int):=by rw [List.getElem?_map,hg]; rfl
  have hstep:=zqi_ s V hg
  have hlen:=zlm_ s V n
  generalize (ofC s.1 1).getD n 0=j at *
  obtain ⟨t,ht,hst,hws,hb⟩:=zqj_ hk hs h hmem hR hR2
  have hat:=zli_ hk hCx hS ht
  have hbd:(0:Int)≤(oN s j:Int)∧(oN s j:Int)≤((oN s j+stN s j:Nat):Int)∧((oN s j+stN s j:Nat):Int)≤(V.length:Int):=⟨by omega,by omega,by omega⟩
  have hsl:(V.drop (oN s j)).take (oN s j+stN s j-oN s j)=slV s V j:=by unfold slV; rw [Nat.add_sub_cancel_left]
  have hnull:=zxb_ hk (v:=slV s V j) (by unfold slV; rw [List.length_take,List.length_drop]; omega)
  have hlim:((badL s V n).length+1)*8≤LIM:=by omega
  simp only [z82_,hlt,decide_true,if_true,Int.natCast_nonneg,Int.toNat_natCast,List.length_map,hn,and_self,hF,Option.bind_some,hat,hst,hws,hbd,hsl,hnull,hw,hstep,List.length_singleton,hlim,Bool.not_not]
  cases nzB (slV s V j) <;> simp
 ·intro m
  simp only [z82_,List.length_map,Int.lt_irrefl,decide_false,Bool.false_eq_true,if_false]
theorem zxe_ {k:Nat} (hk:KK≤k) {s:She} (hs:smallSh s) (h:sheB k s=true) {R C:Nat} (hR:zg_ s.2.2.1 (ofC s.1 1)=(R:Int)) (hC:zg_ s.2.2.1 (ofC s.1 0)=(C:Int)) (hR2:R≤32) (hC2:C≤32) {v:List Int} (hl:v.length=C) (hv:∀ x∈v,0≤x∧x≤s.2.1-1):zc9_ k s v=some (badL s (appV (cobM s R C) v C R) (ofC s.1 1).length):=by
 have hK:=zk_
 have hLI:=z1i_
 obtain ⟨hCx,hp,hS⟩:=z1u_ hk h
 have hcl:=hCx.len
 have hol:=z89_ s.1 1
 have ha:=zx8_ hk (zqg_ hk hs h hR hC hR2 hC2) hl hv
 unfold zc9_
 rw [zwy_ hk hs h hR hC hR2 hC2]
 simp only [Option.bind_some]
 rw [show ((cobM s R C).1,(cobM s R C).2.1,(cobM s R C).2.2.1,(cobM s R C).2.2.2)=cobM s R C from rfl,ha]
 simp only [Option.bind_some,zhh_ hk (z3n_ hCx) (show -1000≤(1:Int)∧(1:Int)≤1000 by omega),List.length_map]
 have hVl:=zht_ (cobM s R C) v C R
 generalize appV (cobM s R C) v C R=V at *
 refine z20_ (S:=List Int) (L:=fun n i q=>z7l_ k n ((ofC s.1 1).length:Int) i V q ((ofC s.1 1).map fun i:Nat=>(i:Int)) s (fun q_10=>some q_10)) (b:=(ofC s.1 1).length) (st:=badL s V) ?_ ?_ (n:=k) (by omega)
 ·intro m n hn
  have hlt:(n:Int)<((ofC s.1 1).length:Int):=by omega
  have hw:=zj_ (i:=n) (by omega)
  have hg:(ofC s.1 1)[n]?=some ((ofC s.1 1).getD n 0):=by rw [List.getD_eq_getElem?_getD,List.getElem?_eq_getElem hn]; rfl
  have hmem:(ofC s.1 1).getD n 0∈ofC s.1 1:=List.mem_of_getElem? hg
  have hF:((ofC s.1 1).map fun i:Nat=>(i:Int))[n]?=some (((ofC s.1 1).getD n 0:Nat):Int):=by rw [List.getElem?_map,hg]; rfl
  have hstep:=zqi_ s V hg
  have hlen:=zlm_ s V n
  generalize (ofC s.1 1).getD n 0=j at *
  obtain ⟨t,ht,hst,hws,hb⟩:=zqj_ hk hs h hmem hR hR2
  have hat:=zlj_ hk hCx hS ht
  have hbd:(0:Int)≤(oN s j:Int)∧(oN s j:Int)≤((oN s j+stN s j:Nat):Int)∧((oN s j+stN s j:Nat):Int)≤(V.length:Int):=⟨by omega,by omega,by omega⟩
  have hsl:(V.drop (oN s j)).take (oN s j+stN s j-oN s j)=slV s V j:=by unfold slV; rw [Nat.add_sub_cancel_left]
  have hsll:(slV s V j).length≤1048576:=by unfold slV; rw [List.length_take,List.length_drop]; omega
  have hnull:=zxa_ hk (v:=slV s V j) hsll
  have hlim:((badL s V n).length+1)*8≤LIM:=by omega
  have hpart:zfn_ k s V (j:Int)=some (slV s V j):=by
   unfold zfn_
   simp only [hat,Option.bind_some,Int.natCast_nonneg,if_true,Int.toNat_natCast,hst,hws,hbd,and_self,hsl,zw3_ hsll]
  simp only [z7l_,hlt,decide_true,if_true,Int.natCast_nonneg,Int.toNat_natCast,List.length_map,hn,and_self,hF,Option.bind_some,hpart,hnull,hw,hstep,List.length_singleton,hlim,Bool.not_not]
  cases nzB (slV s V j) <;> simp
 ·intro m
  simp only [z7l_,Int.lt_irrefl,decide_false,Bool.false_eq_true,if_false]
abbrev Pha:=Int×Int×List Edg
def z5m_ (x:Pha) (i:Nat):Bool:=match x.2.2[i]? with
 | some a=>!decide (a.1<0)&&(!decide (a.2.1≤a.1)&&(!decide (x.1≤a.2.1)&&(decide (0≤a.2.2∧a.2.2≤z0_ (x.2.1-1))&&zaz_ x.2.2 i a)))
 | none=>false
def z4t_ (x:Pha):Bool:=decide (1≤x.1∧x.1≤12)&&(decide (2≤x.2.1∧x.2.1≤360)&&((List.range x.2.2.length).all (z5m_ x)&&decide (x.2.2.length≤24)))
theorem zxf_ {k:Nat} (hk:KK≤k) {x:Pha} (hn:x.2.2.length≤1048576):zgo_ k x=some (z4t_ x):=by
 have hK:=zk_
 have e2:decide ((x.2.2.length:Int)≤24)=decide (x.2.2.length≤24):=decide_eq_decide.2 (by omega)
 unfold zgo_ z4t_
 simp only [z4q_,Option.bind_some]
 by_cases c0:1≤x.1∧x.1≤12
 case neg=>simp [c0]
 by_cases c00:2≤x.2.1∧x.2.1≤360
 case neg=>simp [c0,c00]
 have hl:z5g_ k k x 0 (fun x_10=>some (decide ((List.length x_10.2.2:Int)≤24)))=if (List.range x.2.2.length).all (z5m_ x)=true then some (decide ((x.2.2.length:Int)≤24)) else some false:=by
  refine z3l_ (L:=fun m i=>z5g_ k m x i (fun x_10=>some (decide ((List.length x_10.2.2:Int)≤24)))) (b:=x.2.2.length) (p:=z5m_ x) (r:=some false) ?_ ?_ (n:=k) (by omega)
  ·intro m i hi
   have hlt:(i:Int)<(x.2.2.length:Int):=by omega
   have hw:=zj_ (i:=i) (by omega)
   have hg:x.2.2[i]?=some x.2.2[i]:=List.getElem?_eq_getElem hi
   have wn:z0_ (x.1-1)=x.1-1:=w_id (by omega) (by omega)
   simp only [z5g_,hlt,decide_true,if_true,Int.natCast_nonneg,Int.toNat_natCast,hg,Option.bind_some,hw,z4q_,z5m_,zaz_,wn]
   generalize x.2.2[i]=a
   by_cases c1:0≤a.1∧a.1≤x.1-1
   case neg =>
    rw [decide_eq_false c1,if_pos (by simp),if_neg]
    intro h
    simp only [Bool.and_eq_true,Bool.not_eq_true',decide_eq_false_iff_not] at h
    omega
   have wa:z0_ (a.1+1)=a.1+1:=w_id (by omega) (by omega)
   rw [wa,decide_eq_true c1]
   simp only [Bool.not_true,Bool.false_eq_true,if_false]
   by_cases c2:a.1+1≤a.2.1∧a.2.1≤x.1-1
   case neg =>
    rw [decide_eq_false c2,if_pos (by simp),if_neg]
    intro h
    simp only [Bool.and_eq_true,Bool.not_eq_true',decide_eq_false_iff_not] at h
    omega
   rw [decide_eq_true c2,decide_eq_false (show ¬ a.1<0 by omega),decide_eq_false (show ¬ a.2.1≤a.1 by omega),decide_eq_false (show ¬ x.1≤a.2.1 by omega)]
   simp only [Bool.not_true,Bool.not_false,Bool.false_eq_true,if_false,Bool.true_and]
   by_cases c4:0≤a.2.2∧a.2.2≤z0_ (x.2.1-1)
   case neg=>simp [c4]
   rw [decide_eq_true c4]
   simp only [Bool.not_true,Bool.not_false,Bool.false_eq_true,if_false,Bool.true_and]
   by_cases h0:0<i
   ·have h0':(0:Int)<(i:Int):=by omega
    have hw1:z0_ ((i:Int)-1)=((i-1:Nat):Int):=by rw [w_id (by omega) (by omega)]; omega
    have hg1:x.2.2[i-1]?=some x.2.2[i-1]:=List.getElem?_eq_getElem (by omega)
    simp only [h0',h0,decide_true,if_true,hw1,Int.natCast_nonneg,Int.toNat_natCast,hg1,Option.bind_some]
    generalize x.2.2[i-1]=t
    unfold z8b_
    by_cases d1:a.1<t.1
    ·have:¬ (t.1<a.1∨t.1=a.1∧t.2.1<a.2.1):=by omega
     rw [decide_eq_true d1,if_pos rfl,decide_eq_false this,if_neg (by simp)]
    ·rw [decide_eq_false d1,if_neg (by simp)]
     by_cases d2:t.1=a.1
     ·rw [decide_eq_true d2,if_pos rfl]
      by_cases d3:a.2.1≤t.2.1
      ·have:¬ (t.1<a.1∨t.1=a.1∧t.2.1<a.2.1):=by omega
       rw [decide_eq_true d3,if_pos rfl,decide_eq_false this,if_neg (by simp)]
      ·have:(t.1<a.1∨t.1=a.1∧t.2.1<a.2.1):=by omega
       rw [decide_eq_false d3,if_neg (by simp),decide_eq_true this,if_pos rfl]
     ·have:(t.1<a.1∨t.1=a.1∧t.2.1<a.2.1):=by omega
      rw [decide_eq_false d2,if_neg (by simp),decide_eq_true this,if_pos rfl]
   ·have h0':¬ (0:Int)<(i:Int):=by omega
    simp [h0,h0']
  ·intro m
   simp only [z5g_,Int.lt_irrefl,decide_false,Bool.false_eq_true,if_false]
 rw [hl,e2,decide_eq_true c0,decide_eq_true c00]
 cases (List.range x.2.2.length).all (z5m_ x) <;> simp
theorem zxg_ {k:Nat} (hk:KK≤k) {x:Pha} (hn:x.2.2.length≤1048576):zfc_ k x=some (z4t_ x):=by
 have hK:=zk_
 have e2:decide ((x.2.2.length:Int)≤24)=decide (x.2.2.length≤24):=decide_eq_decide.2 (by omega)
 have hE:((z2e_ x.1 1 12).bind fun r_9=>(if r_9=true then (z2e_ x.2.1 2 360).bind fun r_10=>(if r_10=true then some (decide ((List.length x.2.2:Int)≤24)) else some false) else some false))=some (decide (1≤x.1∧x.1≤12)&&(decide (2≤x.2.1∧x.2.1≤360)&&decide (x.2.2.length≤24))):=by
  simp only [z47_,Option.bind_some,e2]
  by_cases c1:1≤x.1∧x.1≤12
  case neg=>simp [c1]
  by_cases c2:2≤x.2.1∧x.2.1≤360
  case neg=>simp [c1,c2]
  simp [c1,c2]
 unfold zfc_
 have hl:∀ E:Pha→Option Bool,z6b_ k k x.2.2 (x.2.2.length:Int) 0 x E=if (List.range x.2.2.length).all (z5m_ x)=true then E x else some false:=by
  intro E
  refine z3l_ (L:=fun m i=>z6b_ k m x.2.2 (x.2.2.length:Int) i x E) (b:=x.2.2.length) (p:=z5m_ x) (r:=some false) ?_ ?_ (n:=k) (by omega)
  ·intro m i hi
   have hlt:(i:Int)<(x.2.2.length:Int):=by omega
   have hw:=zj_ (i:=i) (by omega)
   have hg:x.2.2[i]?=some x.2.2[i]:=List.getElem?_eq_getElem hi
   simp only [z6b_,z3m_,hlt,decide_true,if_true,Int.natCast_nonneg,Int.toNat_natCast,hg,Option.bind_some,hw,z47_,z5m_,zaz_]
   generalize x.2.2[i]=a
   by_cases c1:a.1<0
   case pos=>simp [c1]
   by_cases c2:a.2.1≤a.1
   case pos=>simp [c1,c2]
   by_cases c3:x.1≤a.2.1
   case pos=>simp [c1,c2,c3]
   by_cases c4:0≤a.2.2∧a.2.2≤z0_ (x.2.1-1)
   case neg=>simp [c1,c2,c3,c4]
   rw [decide_eq_false c1,decide_eq_false c2,decide_eq_false c3,decide_eq_true c4]
   simp only [Bool.not_true,Bool.not_false,Bool.false_eq_true,if_false,Bool.true_and]
   by_cases h0:0<i
   ·have h0':(0:Int)<(i:Int):=by omega
    have hw1:z0_ ((i:Int)-1)=((i-1:Nat):Int):=by rw [w_id (by omega) (by omega)]; omega
    have hg1:x.2.2[i-1]?=some x.2.2[i-1]:=List.getElem?_eq_getElem (by omega)
    simp only [h0',h0,decide_true,if_true,hw1,Int.natCast_nonneg,Int.toNat_natCast,hg1,Option.bind_some,zkw_,zkx_ hk,zq0_]
    generalize x.2.2[i-1]=t
    cases z8b_ t a <;> simp
   ·have h0':¬ (0:Int)<(i:Int):=by omega
    simp [h0,h0']
  ·intro m
   simp only [z6b_,Int.lt_irrefl,decide_false,Bool.false_eq_true,if_false]
 rw [hl,hE]
 unfold z4t_
 cases (List.range x.2.2.length).all (z5m_ x) <;> simp
abbrev Wrk:=She×Int×List Int×List Int×Net×List Int×List Int×Pha×List Int
structure smallW (w:Wrk):Prop where
 sh:smallSh w.1
 cl:w.2.2.1.length≤1048576
 rd:w.2.2.2.1.length≤1048576
 net:w.2.2.2.2.1.2.2.2.length≤1048576
 pha:w.2.2.2.2.2.2.2.1.2.2.length≤1048576
 ang:w.2.2.2.2.2.2.2.2.length≤1048576
noncomputable def z4a_ (k:Nat) (w:Wrk):Bool:=sheB k w.1&&(decide (0≤w.2.1∧w.2.1≤3)&&(colB w.2.2.1 (zg_ w.1.2.2.1 (ofC w.1.1 w.2.1)) w.1.2.1&&(colB w.2.2.2.1 (zg_ w.1.2.2.1 (ofC w.1.1 0)) w.1.2.1&&(netB w.2.2.2.2.1&&(z4t_ w.2.2.2.2.2.2.2.1&&colB w.2.2.2.2.2.2.2.2 w.2.2.2.2.2.2.2.1.1 w.2.2.2.2.2.2.2.1.2.1)))))
theorem zqk_ {x:Pha} (h:z4t_ x=true):(1≤x.1∧x.1≤12)∧(2≤x.2.1∧x.2.1≤360):=by
 unfold z4t_ at h
 simp only [Bool.and_eq_true,decide_eq_true_eq] at h
 exact ⟨h.1,h.2.1⟩
theorem zxh_ {k:Nat} (hk:KK≤k) {w:Wrk} (hs:smallW w):zgp_ k w=some (z4a_ k w):=by
 unfold zgp_ z4a_ zk6_ zk7_
 rw [zvz_ hk hs.sh]
 cases h1:sheB k w.1 with
 | false=>simp
 | true =>
  obtain ⟨hC,hp,hS⟩:=z1u_ hk h1
  have hsc:=z3n_ hC
  simp only [Option.bind_some,Bool.not_true,Bool.false_eq_true,if_false,z4q_,Bool.true_and]
  by_cases c2:0≤w.2.1∧w.2.1≤3
  case neg=>simp [c2]
  have hp' : -1000000≤w.1.2.1∧w.1.2.1≤1000000:=by omega
  have hc1:z46_ k w.2.2.1 (zg_ w.1.2.2.1 (ofC w.1.1 w.2.1)) w.1.2.1=some (colB w.2.2.1 (zg_ w.1.2.2.1 (ofC w.1.1 w.2.1)) w.1.2.1):=zcq_ hk hs.cl _ hp'
  have hc2:z46_ k w.2.2.2.1 (zg_ w.1.2.2.1 (ofC w.1.1 0)) w.1.2.1=some (colB w.2.2.2.1 (zg_ w.1.2.2.1 (ofC w.1.1 0)) w.1.2.1):=zcq_ hk hs.rd _ hp'
  rw [decide_eq_true c2,zcs_ hk hsc hS (by omega),zcs_ hk hsc hS (by omega)]
  simp only [Option.bind_some,Bool.not_true,Bool.false_eq_true,if_false,hc1,hc2,zwa_ hk hs.net,zxf_ hk hs.pha,Bool.true_and]
  cases colB w.2.2.1 (zg_ w.1.2.2.1 (ofC w.1.1 w.2.1)) w.1.2.1 with
  | false=>simp
  | true =>
  cases colB w.2.2.2.1 (zg_ w.1.2.2.1 (ofC w.1.1 0)) w.1.2.1 with
  | false=>simp
  | true =>
  cases netB w.2.2.2.2.1 with
  | false=>simp
  | true =>
  cases h5:z4t_ w.2.2.2.2.2.2.2.1 with
  | false=>simp
  | true =>
   obtain ⟨g1,g2⟩:=zqk_ h5
   have hc3:z46_ k w.2.2.2.2.2.2.2.2 w.2.2.2.2.2.2.2.1.1 w.2.2.2.2.2.2.2.1.2.1=some (colB w.2.2.2.2.2.2.2.2 w.2.2.2.2.2.2.2.1.1 w.2.2.2.2.2.2.2.1.2.1):=zcq_ hk hs.ang _ (by omega)
   simp only [Bool.not_true,Bool.false_eq_true,if_false,if_true,hc3,Option.bind_some,Bool.true_and]
theorem zxi_ {k:Nat} (hk:KK≤k) {w:Wrk} (hs:smallW w):zfd_ k w=some (z4a_ k w):=by
 unfold zfd_ z4a_ zjn_ zjo_
 rw [zw0_ hk hs.sh]
 cases h1:sheB k w.1 with
 | false=>simp
 | true =>
  obtain ⟨hC,hp,hS⟩:=z1u_ hk h1
  have hsc:=z3n_ hC
  simp only [Option.bind_some,Bool.not_true,Bool.false_eq_true,if_false,z47_,Bool.true_and]
  by_cases c2:0≤w.2.1∧w.2.1≤3
  case neg=>simp [c2]
  have hp' : -1000000≤w.1.2.1∧w.1.2.1≤1000000:=by omega
  rw [decide_eq_true c2,zct_ hk hsc hS (by omega),zct_ hk hsc hS (by omega)]
  simp only [Option.bind_some,Bool.not_true,Bool.false_eq_true,if_false,zl5_ hk hs.cl _ hp',zl5_ hk hs.rd _ hp',zwb_ hk hs.net,zxg_ hk hs.pha,Bool.true_and]
  cases netB w.2.2.2.2.1 with
  | false=>simp
  | true =>
  cases h5:z4t_ w.2.2.2.2.2.2.2.1 with
  | false=>simp
  | true =>
  obtain ⟨g1,g2⟩:=zqk_ h5
  simp only [Bool.not_true,Bool.false_eq_true,if_false,zl5_ hk hs.ang w.2.2.2.2.2.2.2.1.1 (p:=w.2.2.2.2.2.2.2.1.2.1) (by omega),Option.bind_some]
  cases colB w.2.2.1 (zg_ w.1.2.2.1 (ofC w.1.1 w.2.1)) w.1.2.1 with
  | false=>simp
  | true =>
  cases colB w.2.2.2.1 (zg_ w.1.2.2.1 (ofC w.1.1 0)) w.1.2.1 with
  | false=>simp
  | true=>simp
instance dec_Int64S:DecidableEq (List Int):=inferInstance
def zh_ (a:List Int):Nat:=a.length
theorem z6x_ {a:List Int} {e0:TypeId} {left:Int} (h0:0≤left) (h1:left≤1048576) (h:InR (.sl e0 (.int .i64)) a):z42_ a left=some (if (zh_ a:Int)≤left then left-(zh_ a:Int) else -1):=by
 have hl:a.length≤140737488351232:=h.1
 have hs:zh_ a=a.length:=rfl
 unfold z42_
 rw [hs,w_id (by omega) (by omega)]
 by_cases c:(a.length:Int)≤left
 ·rw [decide_eq_false (by omega),if_neg (by simp),if_pos c]
 ·rw [decide_eq_true (by omega),if_pos rfl,if_neg c]
instance dec_Int64SS:DecidableEq (List (List Int)):=inferInstance
def z21_ (a:List (List Int)):Nat:=a.length+sumL zh_ a
theorem zxj_ {k:Nat} (hk:KK≤k) {a:List (List Int)} {e0 e1:TypeId} {left:Int} (h0:0≤left) (h1:left≤1048576) (h:InR (.sl e0 (.sl e1 (.int .i64))) a):zel_ k a left=some (if (z21_ a:Int)≤left then left-(z21_ a:Int) else -1):=by
 have hl:a.length≤140737488351232:=h.1
 have hs:z21_ a=a.length+sumL zh_ a:=rfl
 have hK:=zk_
 unfold zel_
 rw [hs,w_id (by omega) (by omega)]
 by_cases c:(a.length:Int)≤left
 ·rw [decide_eq_false (by omega),if_neg (by simp)]
  refine Eq.trans (zq3_ (L:=fun n i r=>z95_ k n a r i fun r=>some r) (s:=zh_) a ?_ ?_ (n:=k) (by omega) (r:=left-(a.length:Int)) (by omega) (by omega)) ?_
  ·intro n i x r hi hlt hm r0 r1
   have hw:=zj_ (i:=i) (by omega)
   have hx:=z6x_ (a:=x) r0 r1 (h.2 x hm)
   simp only [z95_,hlt,decide_true,if_true,Int.natCast_nonneg,Int.toNat_natCast,hi,Option.bind_some,hw,hx]
   by_cases c2:(zh_ x:Int)≤r
   ·rw [if_pos c2,decide_eq_false (by omega),if_neg (by simp),if_pos c2]
   ·rw [if_neg c2,decide_eq_true (by omega),if_pos rfl,if_neg c2]
  ·intro n r
   simp [z95_]
  ·by_cases c2:(sumL zh_ a:Int)≤left-(a.length:Int)
   ·rw [if_pos c2,if_pos (by omega)]; congr 1; omega
   ·rw [if_neg c2,if_neg (by omega)]
 ·rw [decide_eq_true (by omega),if_pos rfl,if_neg (by omega)]
instance dec_Complex:DecidableEq (List (List Int)):=inferInstance
def z2p_ (a:List (List Int)):Nat:=(z21_ a)
theorem zxk_ {k:Nat} (hk:KK≤k) {a:List (List Int)} {e0 e1:TypeId} {left:Int} (h0:0≤left) (h1:left≤1048576) (h:InR (.st (.sl e0 (.sl e1 (.int .i64)))) a):zem_ k a left=some (if (z2p_ a:Int)≤left then left-(z2p_ a:Int) else -1):=by
 have hs:z2p_ a=(z21_ a):=rfl
 unfold zem_
 rw [hs]
 have q0:=zxj_ hk (a:=a) (left:=left) (by omega) (by omega) h
 rw [q0]
 by_cases c0:((z21_ a):Int)≤left
 case neg=>rw [if_neg c0]; simp only [Option.bind_some]; rw [decide_eq_true (by omega),if_pos rfl]
 rw [if_pos c0]; simp only [Option.bind_some]
 rw [decide_eq_false (by omega),if_neg (by simp)]
instance dec_Matrix_2:DecidableEq (Int×List Int):=inferInstance
instance dec_Matrix_1:DecidableEq (Int×Int×List Int):=inferInstance
instance dec_Matrix:DecidableEq (Int×Int×Int×List Int):=inferInstance
def z1j_ (a:Int×Int×Int×List Int):Nat:=(zh_ (a.2.2.2))
theorem zxl_ {a:Int×Int×Int×List Int} {e0:TypeId} {left:Int} (h0:0≤left) (h1:left≤1048576) (h:InR (.st (.pr (.int .i64) (.pr (.int .i64) (.pr (.int .i64) (.sl e0 (.int .i64)))))) a):zen_ a left=some (if (z1j_ a:Int)≤left then left-(z1j_ a:Int) else -1):=by
 have hs:z1j_ a=(zh_ (a.2.2.2)):=rfl
 unfold zen_
 rw [hs]
 have q0:=z6x_ (a:=a.2.2.2) (left:=left) (by omega) (by omega) h.2.2.2
 rw [q0]
 by_cases c0:((zh_ (a.2.2.2)):Int)≤left
 case neg=>rw [if_neg c0]; simp only [Option.bind_some]; rw [decide_eq_true (by omega),if_pos rfl]
 rw [if_pos c0]; simp only [Option.bind_some]
 rw [decide_eq_false (by omega),if_neg (by simp)]
instance dec_MatrixS:DecidableEq (List (Int×Int×Int×List Int)):=inferInstance
def z22_ (a:List (Int×Int×Int×List Int)):Nat:=a.length+sumL z1j_ a
theorem zxm_ {k:Nat} (hk:KK≤k) {a:List (Int×Int×Int×List Int)} {e0 e1:TypeId} {left:Int} (h0:0≤left) (h1:left≤1048576) (h:InR (.sl e0 (.st (.pr (.int .i64) (.pr (.int .i64) (.pr (.int .i64) (.sl e1 (.int .i64))))))) a):zeo_ k a left=some (if (z22_ a:Int)≤left then left-(z22_ a:Int) else -1):=by
 have hl:a.length≤140737488351232:=h.1
 have hs:z22_ a=a.length+sumL z1j_ a:=rfl
 have hK:=zk_
 unfold zeo_
 rw [hs,w_id (by omega) (by omega)]
 by_cases c:(a.length:Int)≤left
 ·rw [decide_eq_false (by omega),if_neg (by simp)]
  refine Eq.trans (zq3_ (L:=fun n i r=>z96_ k n a r i fun r=>some r) (s:=z1j_) a ?_ ?_ (n:=k) (by omega) (r:=left-(a.length:Int)) (by omega) (by omega)) ?_
  ·intro n i x r hi hlt hm r0 r1
   have hw:=zj_ (i:=i) (by omega)
   have hx:=zxl_ (a:=x) r0 r1 (h.2 x hm)
   simp only [z96_,hlt,decide_true,if_true,Int.natCast_nonneg,Int.toNat_natCast,hi,Option.bind_some,hw,hx]
   by_cases c2:(z1j_ x:Int)≤r
   ·rw [if_pos c2,decide_eq_false (by omega),if_neg (by simp),if_pos c2]
   ·rw [if_neg c2,decide_eq_true (by omega),if_pos rfl,if_neg c2]
  ·intro n r
   simp [z96_]
  ·by_cases c2:(sumL z1j_ a:Int)≤left-(a.length:Int)
   ·rw [if_pos c2,if_pos (by omega)]; congr 1; omega
   ·rw [if_neg c2,if_neg (by omega)]
 ·rw [decide_eq_true (by omega),if_pos rfl,if_neg (by omega)]
instance dec_Sheaf_2:DecidableEq (List Int×(List (Int×Int×Int×List Int))):=inferInstance
instance dec_Sheaf_1:DecidableEq (Int×List Int×(List (Int×Int×Int×List Int))):=inferInstance
instance dec_Sheaf:DecidableEq (List (List Int)×Int×List Int×(List (Int×Int×Int×List Int))):=inferInstance
def zu_ (a:List (List Int)×Int×List Int×(List (Int×Int×Int×List Int))):Nat:=(z2p_ (a.1))+(zh_ (a.2.2.1))+(z22_ (a.2.2.2))
theorem zxn_ {k:Nat} (hk:KK≤k) {a:List (List Int)×Int×List Int×(List (Int×Int×Int×List Int))} {e0 e1 e2 e3 e4:TypeId} {left:Int} (h0:0≤left) (h1:left≤1048576) (h:InR (.st (.pr (.st (.sl e0 (.sl e1 (.int .i64)))) (.pr (.int .i64) (.pr (.sl e2 (.int .i64)) (.sl e3 (.st (.pr (.int .i64) (.pr (.int .i64) (.pr (.int .i64) (.sl e4 (.int .i64))))))))))) a):zep_ k a left=some (if (zu_ a:Int)≤left then left-(zu_ a:Int) else -1):=by
 have hs:zu_ a=(z2p_ (a.1))+(zh_ (a.2.2.1))+(z22_ (a.2.2.2)):=rfl
 unfold zep_
 rw [hs]
 have q0:=zxk_ hk (a:=a.1) (left:=left) (by omega) (by omega) h.1
 rw [q0]
 by_cases c0:((z2p_ (a.1)):Int)≤left
 case neg=>rw [if_neg c0]; simp only [Option.bind_some]; rw [decide_eq_true (by omega),if_pos rfl,if_neg (by omega)]
 rw [if_pos c0]; simp only [Option.bind_some]
 rw [decide_eq_false (by omega),if_neg (by simp)]
 have q1:=z6x_ (a:=a.2.2.1) (left:=left-((z2p_ (a.1)):Int)) (by omega) (by omega) h.2.2.1
 rw [q1]
 by_cases c1:((zh_ (a.2.2.1)):Int)≤left-((z2p_ (a.1)):Int)
 case neg=>rw [if_neg c1]; simp only [Option.bind_some]; rw [decide_eq_true (by omega),if_pos rfl,if_neg (by omega)]
 rw [if_pos c1]; simp only [Option.bind_some]
 rw [decide_eq_false (by omega),if_neg (by simp)]
 have q2:=zxm_ hk (a:=a.2.2.2) (left:=left-((z2p_ (a.1)):Int)-((zh_ (a.2.2.1)):Int)) (by omega) (by omega) h.2.2.2
 rw [q2]
 by_cases c2:((z22_ (a.2.2.2)):Int)≤left-((z2p_ (a.1)):Int)-((zh_ (a.2.2.1)):Int)
 case neg=>rw [if_neg c2]; simp only [Option.bind_some]; rw [decide_eq_true (by omega),if_pos rfl,if_neg (by omega)]
 rw [if_pos c2]; simp only [Option.bind_some]
 rw [decide_eq_false (by omega),if_neg (by simp)]
 rw [if_pos (by omega)]; congr 1; omega
theorem zxo_ {s:She} (h:zu_ s≤1048576):smallSh s:=by
 have e:zu_ s=s.1.length+sumL List.length s.1+s.2.2.1.length+(s.2.2.2.length+sumL z1j_ s.2.2.2):=rfl
 refine ⟨⟨by omega,fun x hx=>by have:=z5l_ List.length hx; omega⟩,by omega,by omega,fun m hm=>?_⟩
 have h1:=z5l_ z1j_ hm
 have h2:z1j_ m=m.2.2.2.length:=rfl
 omega
instance dec_ArcS:DecidableEq (List (Int×Int×Int)):=inferInstance
def z32_ (a:List (Int×Int×Int)):Nat:=a.length
theorem zxp_ {a:List (Int×Int×Int)} {e0:TypeId} {left:Int} (h0:0≤left) (h1:left≤1048576) (h:InR (.sl e0 (.st (.pr (.int .i64) (.pr (.int .i64) (.int .i64))))) a):zeq_ a left=some (if (z32_ a:Int)≤left then left-(z32_ a:Int) else -1):=by
 have hl:a.length≤140737488351232:=h.1
 have hs:z32_ a=a.length:=rfl
 unfold zeq_
 rw [hs,w_id (by omega) (by omega)]
 by_cases c:(a.length:Int)≤left
 ·rw [decide_eq_false (by omega),if_neg (by simp),if_pos c]
 ·rw [decide_eq_true (by omega),if_pos rfl,if_neg c]
instance dec_Network_2:DecidableEq (Int×(List (Int×Int×Int))):=inferInstance
instance dec_Network_1:DecidableEq (Int×Int×(List (Int×Int×Int))):=inferInstance
instance dec_Network:DecidableEq (Int×Int×Int×(List (Int×Int×Int))):=inferInstance
def z1v_ (a:Int×Int×Int×(List (Int×Int×Int))):Nat:=(z32_ (a.2.2.2))
theorem zxq_ {a:Int×Int×Int×(List (Int×Int×Int))} {e0:TypeId} {left:Int} (h0:0≤left) (h1:left≤1048576) (h:InR (.st (.pr (.int .i64) (.pr (.int .i64) (.pr (.int .i64) (.sl e0 (.st (.pr (.int .i64) (.pr (.int .i64) (.int .i64))))))))) a):zer_ a left=some (if (z1v_ a:Int)≤left then left-(z1v_ a:Int) else -1):=by
 have hs:z1v_ a=(z32_ (a.2.2.2)):=rfl
 unfold zer_
 rw [hs]
 have q0:=zxp_ (a:=a.2.2.2) (left:=left) (by omega) (by omega) h.2.2.2
 rw [q0]
 by_cases c0:((z32_ (a.2.2.2)):Int)≤left
 case neg=>rw [if_neg c0]; simp only [Option.bind_some]; rw [decide_eq_true (by omega),if_pos rfl]
 rw [if_pos c0]; simp only [Option.bind_some]
 rw [decide_eq_false (by omega),if_neg (by simp)]
instance dec_TurnS:DecidableEq (List (Int×Int×Int)):=inferInstance
def z33_ (a:List (Int×Int×Int)):Nat:=a.length
theorem zxr_ {a:List (Int×Int×Int)} {e0:TypeId} {left:Int} (h0:0≤left) (h1:left≤1048576) (h:InR (.sl e0 (.st (.pr (.int .i64) (.pr (.int .i64) (.int .i64))))) a):zes_ a left=some (if (z33_ a:Int)≤left then left-(z33_ a:Int) else -1):=by
 have hl:a.length≤140737488351232:=h.1
 have hs:z33_ a=a.length:=rfl
 unfold zes_
 rw [hs,w_id (by omega) (by omega)]
 by_cases c:(a.length:Int)≤left
 ·rw [decide_eq_false (by omega),if_neg (by simp),if_pos c]
 ·rw [decide_eq_true (by omega),if_pos rfl,if_neg c]
instance dec_Phases_1:DecidableEq (Int×(List (Int×Int×Int))):=inferInstance
instance dec_Phases:DecidableEq (Int×Int×(List (Int×Int×Int))):=inferInstance
def z34_ (a:Int×Int×(List (Int×Int×Int))):Nat:=(z33_ (a.2.2))
theorem zxs_ {a:Int×Int×(List (Int×Int×Int))} {e0:TypeId} {left:Int} (h0:0≤left) (h1:left≤1048576) (h:InR (.st (.pr (.int .i64) (.pr (.int .i64) (.sl e0 (.st (.pr (.int .i64) (.pr (.int .i64) (.int .i64)))))))) a):zet_ a left=some (if (z34_ a:Int)≤left then left-(z34_ a:Int) else -1):=by
 have hs:z34_ a=(z33_ (a.2.2)):=rfl
 unfold zet_
 rw [hs]
 have q0:=zxr_ (a:=a.2.2) (left:=left) (by omega) (by omega) h.2.2
 rw [q0]
 by_cases c0:((z33_ (a.2.2)):Int)≤left
 case neg=>rw [if_neg c0]; simp only [Option.bind_some]; rw [decide_eq_true (by omega),if_pos rfl]
 rw [if_pos c0]; simp only [Option.bind_some]
 rw [decide_eq_false (by omega),if_neg (by simp)]
instance dec_Work_7:DecidableEq ((Int×Int×(List (Int×Int×Int)))×List Int):=inferInstance
instance dec_Work_6:DecidableEq (List Int×(Int×Int×(List (Int×Int×Int)))×List Int):=inferInstance
instance dec_Work_5:DecidableEq (List Int×List Int×(Int×Int×(List (Int×Int×Int)))×List Int):=inferInstance
instance dec_Work_4:DecidableEq ((Int×Int×Int×(List (Int×Int×Int)))×List Int×List Int×(Int×Int×(List (Int×Int×Int)))×List Int):=inferInstance
instance dec_Work_3:DecidableEq (List Int×(Int×Int×Int×(List (Int×Int×Int)))×List Int×List Int×(Int×Int×(List (Int×Int×Int)))×List Int):=inferInstance
instance dec_Work_2:DecidableEq (List Int×List Int×(Int×Int×Int×(List (Int×Int×Int)))×List Int×List Int×(Int×Int×(List (Int×Int×Int)))×List Int):=inferInstance
instance dec_Work_1:DecidableEq (Int×List Int×List Int×(Int×Int×Int×(List (Int×Int×Int)))×List Int×List Int×(Int×Int×(List (Int×Int×Int)))×List Int):=inferInstance
instance dec_Work:DecidableEq ((List (List Int)×Int×List Int×(List (Int×Int×Int×List Int)))×Int×List Int×List Int×(Int×Int×Int×(List (Int×Int×Int)))×List Int×List Int×(Int×Int×(List (Int×Int×Int)))×List Int):=inferInstance
def z15_ (a:(List (List Int)×Int×List Int×(List (Int×Int×Int×List Int)))×Int×List Int×List Int×(Int×Int×Int×(List (Int×Int×Int)))×List Int×List Int×(Int×Int×(List (Int×Int×Int)))×List Int):Nat:=(zu_ (a.1))+(zh_ (a.2.2.1))+(zh_ (a.2.2.2.1))+(z1v_ (a.2.2.2.2.1))+(zh_ (a.2.2.2.2.2.1))+(zh_ (a.2.2.2.2.2.2.1))+(z34_ (a.2.2.2.2.2.2.2.1))+(zh_ (a.2.2.2.2.2.2.2.2))
theorem zxt_ {k:Nat} (hk:KK≤k) {a:(List (List Int)×Int×List Int×(List (Int×Int×Int×List Int)))×Int×List Int×List Int×(Int×Int×Int×(List (Int×Int×Int)))×List Int×List Int×(Int×Int×(List (Int×Int×Int)))×List Int} {e0 e1 e2 e3 e4 e5 e6 e7 e8 e9 e10 e11:TypeId} {left:Int} (h0:0≤left) (h1:left≤1048576) (h:InR (.st (.pr (.st (.pr (.st (.sl e0 (.sl e1 (.int .i64)))) (.pr (.int .i64) (.pr (.sl e2 (.int .i64)) (.sl e3 (.st (.pr (.int .i64) (.pr (.int .i64) (.pr (.int .i64) (.sl e4 (.int .i64))))))))))) (.pr (.int .i64) (.pr (.sl e5 (.int .i64)) (.pr (.sl e6 (.int .i64)) (.pr (.st (.pr (.int .i64) (.pr (.int .i64) (.pr (.int .i64) (.sl e7 (.st (.pr (.int .i64) (.pr (.int .i64) (.int .i64))))))))) (.pr (.sl e8 (.int .i64)) (.pr (.sl e9 (.int .i64)) (.pr (.st (.pr (.int .i64) (.pr (.int .i64) (.sl e10 (.st (.pr (.int .i64) (.pr (.int .i64) (.int .i64)))))))) (.sl e11 (.int .i64))))))))))) a):zeu_ k a left=some (if (z15_ a:Int)≤left then left-(z15_ a:Int) else -1):=by
 have hs:z15_ a=(zu_ (a.1))+(zh_ (a.2.2.1))+(zh_ (a.2.2.2.1))+(z1v_ (a.2.2.2.2.1))+(zh_ (a.2.2.2.2.2.1))+(zh_ (a.2.2.2.2.2.2.1))+(z34_ (a.2.2.2.2.2.2.2.1))+(zh_ (a.2.2.2.2.2.2.2.2)):=rfl
 unfold zeu_
 rw [hs]
 have q0:=zxn_ hk (a:=a.1) (left:=left) (by omega) (by omega) h.1
 rw [q0]
 by_cases c0:((zu_ (a.1)):Int)≤left
 case neg=>rw [if_neg c0]; simp only [Option.bind_some]; rw [decide_eq_true (by omega),if_pos rfl,if_neg (by omega)]
 rw [if_pos c0]; simp only [Option.bind_some]
 rw [decide_eq_false (by omega),if_neg (by simp)]
 have q1:=z6x_ (a:=a.2.2.1) (left:=left-((zu_ (a.1)):Int)) (by omega) (by omega) h.2.2.1
 rw [q1]
 by_cases c1:((zh_ (a.2.2.1)):Int)≤left-((zu_ (a.1)):Int)
 case neg=>rw [if_neg c1]; simp only [Option.bind_some]; rw [decide_eq_true (by omega),if_pos rfl,if_neg (by omega)]
 rw [if_pos c1]; simp only [Option.bind_some]
 rw [decide_eq_false (by omega),if_neg (by simp)]
 have q2:=z6x_ (a:=a.2.2.2.1) (left:=left-((zu_ (a.1)):Int)-((zh_ (a.2.2.1)):Int)) (by omega) (by omega) h.2.2.2.1
 rw [q2]
 by_cases c2:((zh_ (a.2.2.2.1)):Int)≤left-((zu_ (a.1)):Int)-((zh_ (a.2.2.1)):Int)
 case neg=>rw [if_neg c2]; simp only [Option.bind_some]; rw [decide_eq_true (by omega),if_pos rfl,if_neg (by omega)]
 rw [if_pos c2]; simp only [Option.bind_some]
 rw [decide_eq_false (by omega),if_neg (by simp)]
 have q3:=zxq_ (a:=a.2.2.2.2.1) (left:=left-((zu_ (a.1)):Int)-((zh_ (a.2.2.1)):Int)-((zh_ (a.2.2.2.1)):Int)) (by omega) (by omega) h.2.2.2.2.1
 rw [q3]
 by_cases c3:((z1v_ (a.2.2.2.2.1)):Int)≤left-((zu_ (a.1)):Int)-((zh_ (a.2.2.1)):Int)-((zh_ (a.2.2.2.1)):Int)
 case neg=>rw [if_neg c3]; simp only [Option.bind_some]; rw [decide_eq_true (by omega),if_pos rfl,if_neg (by omega)]
 rw [if_pos c3]; simp only [Option.bind_some]
 rw [decide_eq_false (by omega),if_neg (by simp)]
 have q4:=z6x_ (a:=a.2.2.2.2.2.1) (left:=left-((zu_ (a.1)):Int)-((zh_ (a.2.2.1)):Int)-((zh_ (a.2.2.2.1)):Int)-((z1v_ (a.2.2.2.2.1)):Int)) (by omega) (by omega) h.2.2.2.2.2.1
 rw [q4]
 by_cases c4:((zh_ (a.2.2.2.2.2.1)):Int)≤left-((zu_ (a.1)):Int)-((zh_ (a.2.2.1)):Int)-((zh_ (a.2.2.2.1)):Int)-((z1v_ (a.2.2.2.2.1)):Int)
 case neg=>rw [if_neg c4]; simp only [Option.bind_some]; rw [decide_eq_true (by omega),if_pos rfl,if_neg (by omega)]
 rw [if_pos c4]; simp only [Option.bind_some]
 rw [decide_eq_false (by omega),if_neg (by simp)]
 have q5:=z6x_ (a:=a.2.2.2.2.2.2.1) (left:=left-((zu_ (a.1)):Int)-((zh_ (a.2.2.1)):Int)-((zh_ (a.2.2.2.1)):Int)-((z1v_ (a.2.2.2.2.1)):Int)-((zh_ (a.2.2.2.2.2.1)):Int)) (by omega) (by omega) h.2.2.2.2.2.2.1
 rw [q5]
 by_cases c5:((zh_ (a.2.2.2.2.2.2.1)):Int)≤left-((zu_ (a.1)):Int)-((zh_ (a.2.2.1)):Int)-((zh_ (a.2.2.2.1)):Int)-((z1v_ (a.2.2.2.2.1)):Int)-((zh_ (a.2.2.2.2.2.1)):Int)
 case neg=>rw [if_neg c5]; simp only [Option.bind_some]; rw [decide_eq_true (by omega),if_pos rfl,if_neg (by omega)]
 rw [if_pos c5]; simp only [Option.bind_some]
 rw [decide_eq_false (by omega),if_neg (by simp)]
 have q6:=zxs_ (a:=a.2.2.2.2.2.2.2.1) (left:=left-((zu_ (a.1)):Int)-((zh_ (a.2.2.1)):Int)-((zh_ (a.2.2.2.1)):Int)-((z1v_ (a.2.2.2.2.1)):Int)-((zh_ (a.2.2.2.2.2.1)):Int)-((zh_ (a.2.2.2.2.2.2.1)):Int)) (by omega) (by omega) h.2.2.2.2.2.2.2.1
 rw [q6]
 by_cases c6:((z34_ (a.2.2.2.2.2.2.2.1)):Int)≤left-((zu_ (a.1)):Int)-((zh_ (a.2.2.1)):Int)-((zh_ (a.2.2.2.1)):Int)-((z1v_ (a.2.2.2.2.1)):Int)-((zh_ (a.2.2.2.2.2.1)):Int)-((zh_ (a.2.2.2.2.2.2.1)):Int)
 case neg=>rw [if_neg c6]; simp only [Option.bind_some]; rw [decide_eq_true (by omega),if_pos rfl,if_neg (by omega)]
 rw [if_pos c6]; simp only [Option.bind_some]
 rw [decide_eq_false (by omega),if_neg (by simp)]
 have q7:=z6x_ (a:=a.2.2.2.2.2.2.2.2) (left:=left-((zu_ (a.1)):Int)-((zh_ (a.2.2.1)):Int)-((zh_ (a.2.2.2.1)):Int)-((z1v_ (a.2.2.2.2.1)):Int)-((zh_ (a.2.2.2.2.2.1)):Int)-((zh_ (a.2.2.2.2.2.2.1)):Int)-((z34_ (a.2.2.2.2.2.2.2.1)):Int)) (by omega) (by omega) h.2.2.2.2.2.2.2.2
 rw [q7]
 by_cases c7:((zh_ (a.2.2.2.2.2.2.2.2)):Int)≤left-((zu_ (a.1)):Int)-((zh_ (a.2.2.1)):Int)-((zh_ (a.2.2.2.1)):Int)-((z1v_ (a.2.2.2.2.1)):Int)-((zh_ (a.2.2.2.2.2.1)):Int)-((zh_ (a.2.2.2.2.2.2.1)):Int)-((z34_ (a.2.2.2.2.2.2.2.1)):Int)
 case neg=>rw [if_neg c7]; simp only [Option.bind_some]; rw [decide_eq_true (by omega),if_pos rfl,if_neg (by omega)]
 rw [if_pos c7]; simp only [Option.bind_some]
 rw [decide_eq_false (by omega),if_neg (by simp)]
 rw [if_pos (by omega)]; congr 1; omega
theorem zxu_ {w:Wrk} (h:z15_ w≤1048576):smallW w:=by
 have e:z15_ w=zu_ w.1+w.2.2.1.length+w.2.2.2.1.length+w.2.2.2.2.1.2.2.2.length+w.2.2.2.2.2.1.length+w.2.2.2.2.2.2.1.length+w.2.2.2.2.2.2.2.1.2.2.length+w.2.2.2.2.2.2.2.2.length:=rfl
 exact ⟨zxo_ (by omega),by omega,by omega,by omega,by omega,by omega⟩
def mkI (_:Int) (m:Int):Int×Int:=(m,m+((1:Nat):Int))
theorem zln_:∀ (x:Int) (m:Int),(mkI x m).2=m+(((fun _:Int=>1) x:Nat):Int):=fun _ _=>rfl
theorem zxv_ {k:Nat} (hk:KK≤k) {q:List (List Int)} {a:Nat} {z:List Int} (hz:q[a]?=some z) {m:Int} (h0:0≤m) (h1:m≤1000000000000000000) (hl:z.length≤1000000000000) :
  zg7_ k a m q=some ((m+(z.length:Int),()),(q.set a (mkL mkI z m).1,()),()):=by
 have hK:=zk_
 have ha:=(List.getElem?_eq_some_iff.1 hz).1
 have hs:=zhn_ z
 unfold zg7_
 have e:q=q.set a z:=by
  obtain ⟨h,rfl⟩:=List.getElem?_eq_some_iff.1 hz
  exact (List.set_getElem_self h).symm
 have:=z6v_ zln_ z (m0:=m) (B:=2000000000000000000) (by omega) (S:=fun l=>q.set a l) (L:=fun n m i q=>z9x_ k n a m i q (fun k_10 q_11=>some ((k_10,()),(q_11,()),())))
  (G:=some ((m+(z.length:Int),()),(q.set a (mkL mkI z m).1,()),())) ?_ ?_ (n:=k) (by omega)
 ·rw [← e] at this
  exact this
 ·intro n i m l y hll hg hy m0 m1 hlt hlt'
  have hw:=zj_ (i:=i) (by omega)
  have hm:z0_ (m+1)=m+((1:Nat):Int):=w_id (by omega) (by omega)
  simp only [z9x_,List.getElem?_set_self ha,Option.bind_some,hlt,hlt',decide_true,if_true,Int.natCast_nonneg,Int.toNat_natCast,and_self,List.getElem?_eq_getElem hlt',hm,hw,List.set_set,mkI]
 ·intro n l hl2 hll
  have:¬ (z.length:Int)<(l.length:Int):=by omega
  simp only [z9x_,List.getElem?_set_self ha,Option.bind_some,this,decide_false,Bool.false_eq_true,if_false,hs]
  rw [hl2]
def mkIS (z:List Int) (m:Int):List Int×Int:=((mkL mkI z m).1,m+(z.length:Int))
theorem zxw_ (z:List Int) (m:Int):(mkIS z m).2=m+(z.length:Int):=rfl
theorem zxx_ {k:Nat} (hk:KK≤k) {L:List (List Int)} {m:Int} (h0:0≤m) (h1:m+(sumL List.length L:Int)≤100000000000000000) (hx:∀ x∈L,x.length≤1000000000000) (hL:L.length≤1000000000000) :
  zg8_ k m L=some ((m+(sumL List.length L:Int),()),((mkL mkIS L m).1,()),()):=by
 have hK:=zk_
 unfold zg8_
 refine z6v_ zxw_ L (m0:=m) (B:=100000000000000000) h1 (S:=fun l=>l) (L:=fun n m i q=>z9y_ k n m i q (fun k_5 q_6=>some ((k_5,()),(q_6,()),()))) ?_ ?_ (n:=k) (by omega)
 ·intro n i m' l y hll hg hy m0 m1 hlt hlt'
  have hw:=zj_ (i:=i) (by omega)
  have st:=zxv_ hk hg (m:=m') (by omega) (by omega) (hx y hy)
  simp only [z9y_,hlt,hlt',decide_true,if_true,Option.bind_some,Int.natCast_nonneg,Int.toNat_natCast,and_self,hg,st,hw]
  rfl
 ·intro n l hl2 hll
  have:¬ (L.length:Int)<(l.length:Int):=by omega
  simp only [z9y_,this,decide_false,Bool.false_eq_true,if_false]
  rw [hl2]
theorem zxy_ {k:Nat} (hk:KK≤k) {a:List Int} {m:Int} (h0:0≤m) (h1:m≤1000000000000000000) (hl:a.length≤1000000000000) :
  z5b_ k m a=some ((m+(a.length:Int),()),((mkL mkI a m).1,()),()):=by
 have hK:=zk_
 have hs:=zhn_ a
 unfold z5b_
 refine z6v_ zln_ a (m0:=m) (B:=2000000000000000000) (by omega) (S:=fun l=>l) (L:=fun n m i q=>z9z_ k n m i q (fun k_5 q_6=>some ((k_5,()),(q_6,()),()))) ?_ ?_ (n:=k) (by omega)
 ·intro n i m l y hll hg hy m0 m1 hlt hlt'
  have hw:=zj_ (i:=i) (by omega)
  have hm:z0_ (m+1)=m+((1:Nat):Int):=w_id (by omega) (by omega)
  simp only [z9z_,Option.bind_some,hlt,hlt',decide_true,if_true,Int.natCast_nonneg,Int.toNat_natCast,and_self,List.getElem?_eq_getElem hlt',hm,hw,mkI]
 ·intro n l hl2 hll
  have:¬ (a.length:Int)<(l.length:Int):=by omega
  simp only [z9z_,this,decide_false,Bool.false_eq_true,if_false,hs]
  rw [hl2]
theorem zql_ {α:Type} {f g:α→Nat} {c:Nat}:∀ {l:List α},(∀ x∈l,f x≤g x+c)→sumL f l≤sumL g l+c*l.length
 | [],_=>by simp [z8c_]
 | x::l,h=>by
  have h1:=h x (by simp)
  have h2:=zql_ (f:=f) (g:=g) (c:=c) (l:=l) fun y hy=>h y (by simp [hy])
  rw [z3o_,z3o_,List.length_cons,Nat.mul_succ]
  omega
theorem zxz_ {k:Nat} (hk:KK≤k) {q:List Mat} {a:Nat} {z:Mat} (hz:q[a]?=some z) {m:Int} (h0:0≤m) (h1:m≤1000000000000000000) (hl:z.2.2.2.length≤1000000000000) :
  zg9_ k a m q=some ((m+(z.2.2.2.length:Int),()),(q.set a (z.1,z.2.1,z.2.2.1,(mkL mkI z.2.2.2 m).1),()),()):=by
 have hK:=zk_
 have ha:=(List.getElem?_eq_some_iff.1 hz).1
 have hs:=zhn_ z.2.2.2
 unfold zg9_
 have e:q=q.set a (z.1,z.2.1,z.2.2.1,z.2.2.2):=by
  obtain ⟨h,rfl⟩:=List.getElem?_eq_some_iff.1 hz
  exact (List.set_getElem_self h).symm
 have:=z6v_ zln_ z.2.2.2 (m0:=m) (B:=2000000000000000000) (by omega) (S:=fun l=>q.set a (z.1,z.2.1,z.2.2.1,l)) (L:=fun n m i q=>za0_ k n a m i q (fun k_10 q_11=>some ((k_10,()),(q_11,()),())))
  (G:=some ((m+(z.2.2.2.length:Int),()),(q.set a (z.1,z.2.1,z.2.2.1,(mkL mkI z.2.2.2 m).1),()),())) ?_ ?_ (n:=k) (by omega)
 ·rw [← e] at this
  exact this
 ·intro n i m l y hll hg hy m0 m1 hlt hlt'
  have hw:=zj_ (i:=i) (by omega)
  have hm:z0_ (m+1)=m+((1:Nat):Int):=w_id (by omega) (by omega)
  simp only [za0_,List.getElem?_set_self ha,Option.bind_some,hlt,hlt',decide_true,if_true,Int.natCast_nonneg,Int.toNat_natCast,and_self,List.getElem?_eq_getElem hlt',hm,hw,List.set_set,mkI]
 ·intro n l hl2 hll
  have:¬ (z.2.2.2.length:Int)<(l.length:Int):=by omega
  simp only [za0_,List.getElem?_set_self ha,Option.bind_some,this,decide_false,Bool.false_eq_true,if_false,hs]
  rw [hl2]
def ctM (x:Mat):Nat:=x.2.2.2.length+3
def mkMt (x:Mat) (m:Int):Mat×Int:=((m,m+1,m+1+1,(mkL mkI x.2.2.2 (m+1+1+1)).1),m+(ctM x:Int))
theorem zy0_ (x:Mat) (m:Int):(mkMt x m).2=m+(ctM x:Int):=rfl
theorem zy1_ {k:Nat} (hk:KK≤k) {L:List Mat} {m:Int} (h0:0≤m) (h1:m+(sumL ctM L:Int)≤10000000000000000) (hx:∀ x∈L,x.2.2.2.length≤1000000000000) (hL:L.length≤1000000000000) :
  zga_ k m L=some ((m+(sumL ctM L:Int),()),((mkL mkMt L m).1,()),()):=by
 have hK:=zk_
 unfold zga_
 refine z6v_ zy0_ L (m0:=m) (B:=10000000000000000) h1 (S:=fun l=>l) (L:=fun n m i q=>za1_ k n m i q (fun k_11 q_12=>some ((k_11,()),(q_12,()),()))) ?_ ?_ (n:=k) (by omega)
 ·intro n i m' l y hll hg hy m0 m1 hlt hlt'
  have hw:=zj_ (i:=i) (by omega)
  have hc:ctM y=y.2.2.2.length+3:=rfl
  have w1:z0_ (m'+1)=m'+1:=w_id (by omega) (by omega)
  have w2:z0_ (m'+1+1)=m'+1+1:=w_id (by omega) (by omega)
  have w3:z0_ (m'+1+1+1)=m'+1+1+1:=w_id (by omega) (by omega)
  have st:=zxz_ hk (q:=l.set i (m',m'+1,m'+1+1,y.2.2.2)) (a:=i) (z:=(m',m'+1,m'+1+1,y.2.2.2)) (List.getElem?_set_self hlt') (m:=m'+1+1+1) (by omega) (by omega) (hx y hy)
  have e:m'+1+1+1+(y.2.2.2.length:Int)=m'+(ctM y:Int):=by omega
  simp only [za1_,hlt,hlt',decide_true,if_true,Option.bind_some,Int.natCast_nonneg,Int.toNat_natCast,and_self,hg,List.length_set,List.getElem?_set_self hlt',w1,w2,w3,List.set_set,st,e,hw]
  rfl
 ·intro n l hl2 hll
  have:¬ (L.length:Int)<(l.length:Int):=by omega
  simp only [za1_,this,decide_false,Bool.false_eq_true,if_false]
  rw [hl2]
def mkAr (_:Edg) (m:Int):Edg×Int:=((m,m+1,m+1+1),m+((3:Nat):Int))
theorem zqm_:∀ (x:Edg) (m:Int),(mkAr x m).2=m+(((fun _:Edg=>3) x:Nat):Int):=fun _ _=>rfl
theorem zy2_ {k:Nat} (hk:KK≤k) {L:List Edg} {m:Int} (h0:0≤m) (h1:m+(sumL (fun _:Edg=>3) L:Int)≤10000000000000000) (hL:L.length≤1000000000000) :
  zgb_ k m L=some ((m+(sumL (fun _:Edg=>3) L:Int),()),((mkL mkAr L m).1,()),()):=by
 have hK:=zk_
 unfold zgb_
 refine z6v_ zqm_ L (m0:=m) (B:=10000000000000000) h1 (S:=fun l=>l) (L:=fun n m i q=>za2_ k n m i q (fun k_9 q_10=>some ((k_9,()),(q_10,()),()))) ?_ ?_ (n:=k) (by omega)
 ·intro n i m' l y hll hg hy m0 m1 hlt hlt'
  have hw:=zj_ (i:=i) (by omega)
  have w1:z0_ (m'+1)=m'+1:=w_id (by omega) (by omega)
  have w2:z0_ (m'+1+1)=m'+1+1:=w_id (by omega) (by omega)
  have w3:z0_ (m'+1+1+1)=m'+((3:Nat):Int):=by rw [w_id (by omega) (by omega)]; omega
  simp only [za2_,hlt,hlt',decide_true,if_true,Option.bind_some,Int.natCast_nonneg,Int.toNat_natCast,and_self,hg,List.length_set,List.getElem?_set_self hlt',w1,w2,w3,List.set_set,hw]
  rfl
 ·intro n l hl2 hll
  have:¬ (L.length:Int)<(l.length:Int):=by omega
  simp only [za2_,this,decide_false,Bool.false_eq_true,if_false]
  rw [hl2]
theorem zy3_ {k:Nat} (hk:KK≤k) {L:List Edg} {m:Int} (h0:0≤m) (h1:m+(sumL (fun _:Edg=>3) L:Int)≤10000000000000000) (hL:L.length≤1000000000000) :
  zgc_ k m L=some ((m+(sumL (fun _:Edg=>3) L:Int),()),((mkL mkAr L m).1,()),()):=by
 have hK:=zk_
 unfold zgc_
 refine z6v_ zqm_ L (m0:=m) (B:=10000000000000000) h1 (S:=fun l=>l) (L:=fun n m i q=>za3_ k n m i q (fun k_9 q_10=>some ((k_9,()),(q_10,()),()))) ?_ ?_ (n:=k) (by omega)
 ·intro n i m' l y hll hg hy m0 m1 hlt hlt'
  have hw:=zj_ (i:=i) (by omega)
  have w1:z0_ (m'+1)=m'+1:=w_id (by omega) (by omega)
  have w2:z0_ (m'+1+1)=m'+1+1:=w_id (by omega) (by omega)
  have w3:z0_ (m'+1+1+1)=m'+((3:Nat):Int):=by rw [w_id (by omega) (by omega)]; omega
  simp only [za3_,hlt,hlt',decide_true,if_true,Option.bind_some,Int.natCast_nonneg,Int.toNat_natCast,and_self,hg,List.length_set,List.getElem?_set_self hlt',w1,w2,w3,List.set_set,hw]
  rfl
 ·intro n l hl2 hll
  have:¬ (L.length:Int)<(l.length:Int):=by omega
  simp only [za3_,this,decide_false,Bool.false_eq_true,if_false]
  rw [hl2]
theorem zhv_ {α:Type}:∀ l:List α,sumL (fun _=>3) l=3*l.length
 | []=>rfl
 | x::l=>by rw [z3o_,zhv_ l,List.length_cons]; omega
theorem zy4_ {k:Nat} (hk:KK≤k) (a1 a2 a3 a4 a5 a6 a7:Int) {q1:List (List Int)} {q2:List Int} {q3:List Mat} {q4 q5:List Int} {q6:List Edg} {q7 q8:List Int} {q9:List Edg} {q10:List Int}
  (h1:z21_ q1≤1048576) (h2:q2.length≤1048576) (h3:z22_ q3≤1048576) (h4:q4.length≤1048576) (h5:q5.length≤1048576) (h6:q6.length≤1048576) (h7:q7.length≤1048576) (h8:q8.length≤1048576) (h9:q9.length≤1048576) (h10:q10.length≤1048576) :
  ∃ y,zcb_ k a1 a2 a3 a4 a5 a6 a7 1 q1 q2 q3 q4 q5 q6 q7 q8 q9 q10=some y∧¬ y.1.1<0:=by
 have e1:z21_ q1=q1.length+sumL List.length q1:=rfl
 have e3:z22_ q3=q3.length+sumL z1j_ q3:=rfl
 have c3:sumL ctM q3≤sumL z1j_ q3+3*q3.length:=zql_ fun x _=>by
  have a:ctM x=x.2.2.2.length+3:=rfl
  have b:z1j_ x=x.2.2.2.length:=rfl
  omega
 have s1:=zxx_ hk (L:=q1) (m:=1) (by omega) (by omega) (fun x hx=>by have:=z5l_ List.length hx; omega) (by omega)
 have s2:=fun (q:List Int) (hq:q.length≤1048576) m (h0:0≤m) (h1:m≤1000000000)=>zxy_ hk (a:=q) (m:=m) h0 (by omega) (by omega)
 have s3:=fun m (h0:0≤m) (h1:m≤1000000000)=>zy1_ hk (L:=q3) (m:=m) h0 (by omega) (fun x hx=>by have:=z5l_ z1j_ hx; have b:z1j_ x=x.2.2.2.length:=rfl; omega) (by omega)
 have s6:=fun m (h0:0≤m) (h1:m≤1000000000)=>zy2_ hk (L:=q6) (m:=m) h0 (by rw [zhv_]; omega) (by omega)
 have s9:=fun m (h0:0≤m) (h1:m≤1000000000)=>zy3_ hk (L:=q9) (m:=m) h0 (by rw [zhv_]; omega) (by omega)
 rw [zhv_] at s6 s9
 unfold zcb_ zk1_ zk0_ zk2_ zk3_
 rw [s1]
 simp only [Option.bind_some]
 rw [s2 q2 h2 _ (by omega) (by omega)]
 simp only [Option.bind_some]
 rw [s3 _ (by omega) (by omega)]
 simp only [Option.bind_some]
 rw [s2 q4 h4 _ (by omega) (by omega)]
 simp only [Option.bind_some]
 rw [s2 q5 h5 _ (by omega) (by omega)]
 simp only [Option.bind_some]
 rw [s6 _ (by omega) (by omega)]
 simp only [Option.bind_some]
 rw [s2 q7 h7 _ (by omega) (by omega)]
 simp only [Option.bind_some]
 rw [s2 q8 h8 _ (by omega) (by omega)]
 simp only [Option.bind_some]
 rw [s9 _ (by omega) (by omega)]
 simp only [Option.bind_some]
 rw [s2 q10 h10 _ (by omega) (by omega)]
 refine ⟨_,rfl,?_⟩
 simp only
 omega
theorem z6y_ {k:Nat} (hk:KK≤k) {a:List Int} (h:zh_ a≤10000000000):z43_ k a=some a:=by
 have hl:a.length≤10000000000:=Nat.le_trans (show a.length≤zh_ a by unfold zh_; omega) h
 unfold z43_
 have hL:=z1i_
 rw [if_pos ⟨by omega,Int.le_refl _,by omega⟩]
 refine zc3_ (L:=fun n i q=>z97_ k n a i q fun q_5=>some q_5) (e:=fun q=>some q) a _ (by simp) ?_ ?_ (n:=k) (by have:=zk_; omega)
 ·intro n i x q hx hlt hq
  have hw:=zj_ (i:=i) (by omega)
  have hi:i<q.length:=by omega
  simp [z97_,hlt,hx,hw,hi]
 ·intro n q
  simp [z97_]
theorem zy5_ {k:Nat} (hk:KK≤k) {a:List (List Int)} (h:z21_ a≤10000000000):zev_ k a=some a:=by
 have hl:a.length≤10000000000:=Nat.le_trans (show a.length≤z21_ a by unfold z21_; omega) h
 unfold zev_
 have hL:=z1i_
 rw [if_pos ⟨by omega,Int.le_refl _,by omega⟩]
 refine zc3_ (L:=fun n i q=>z98_ k n a i q fun q_5=>some q_5) (e:=fun q=>some q) a _ (by simp) ?_ ?_ (n:=k) (by have:=zk_; omega)
 ·intro n i x q hx hlt hq
  have hw:=zj_ (i:=i) (by omega)
  have hi:i<q.length:=by omega
  have hm:=z5l_ zh_ (List.mem_of_getElem? hx)
  have hb:zh_ x≤10000000000:=by unfold z21_ at h; omega
  simp [z98_,z6y_ hk hb,hlt,hx,hw,hi]
 ·intro n q
  simp [z98_]
theorem zy6_ {k:Nat} (hk:KK≤k) {a:List (List Int)} (h:z2p_ a≤10000000000):zew_ k a=some a:=by
 have b0:(z21_ a)≤10000000000:=by unfold z2p_ at h; omega
 unfold zew_
 simp only [zy5_ hk b0,Option.bind_some] <;> rfl
theorem zy7_ {k:Nat} (hk:KK≤k) {a:Int×Int×Int×List Int} (h:z1j_ a≤10000000000):zex_ k a=some a:=by
 have b3:(zh_ (a.2.2.2))≤10000000000:=by unfold z1j_ at h; omega
 unfold zex_
 simp only [z6y_ hk b3,Option.bind_some] <;> rfl
theorem zy8_ {k:Nat} (hk:KK≤k) {a:List (Int×Int×Int×List Int)} (h:z22_ a≤10000000000):zey_ k a=some a:=by
 have hl:a.length≤10000000000:=Nat.le_trans (show a.length≤z22_ a by unfold z22_; omega) h
 unfold zey_
 have hL:=z1i_
 rw [if_pos ⟨by omega,Int.le_refl _,by omega⟩]
 refine zc3_ (L:=fun n i q=>z99_ k n a i q fun q_5=>some q_5) (e:=fun q=>some q) a _ (by simp) ?_ ?_ (n:=k) (by have:=zk_; omega)
 ·intro n i x q hx hlt hq
  have hw:=zj_ (i:=i) (by omega)
  have hi:i<q.length:=by omega
  have hm:=z5l_ z1j_ (List.mem_of_getElem? hx)
  have hb:z1j_ x≤10000000000:=by unfold z22_ at h; omega
  simp [z99_,zy7_ hk hb,hlt,hx,hw,hi]
 ·intro n q
  simp [z99_]
theorem zy9_ {k:Nat} (hk:KK≤k) {a:List (List Int)×Int×List Int×(List (Int×Int×Int×List Int))} (h:zu_ a≤10000000000):zez_ k a=some a:=by
 have b0:(z2p_ (a.1))≤10000000000:=by unfold zu_ at h; omega
 have b2:(zh_ (a.2.2.1))≤10000000000:=by unfold zu_ at h; omega
 have b3:(z22_ (a.2.2.2))≤10000000000:=by unfold zu_ at h; omega
 unfold zez_
 simp only [zy6_ hk b0,z6y_ hk b2,zy8_ hk b3,Option.bind_some] <;> rfl
theorem zya_ {a:Int×Int×Int} :zf0_ a=some a:=by
 unfold zf0_
 rfl
theorem zyb_ {k:Nat} (hk:KK≤k) {a:List (Int×Int×Int)} (h:z32_ a≤10000000000):zf1_ k a=some a:=by
 have hl:a.length≤10000000000:=Nat.le_trans (show a.length≤z32_ a by unfold z32_; omega) h
 unfold zf1_
 have hL:=z1i_
 rw [if_pos ⟨by omega,Int.le_refl _,by omega⟩]
 refine zc3_ (L:=fun n i q=>z9a_ k n a i q fun q_5=>some q_5) (e:=fun q=>some q) a _ (by simp) ?_ ?_ (n:=k) (by have:=zk_; omega)
 ·intro n i x q hx hlt hq
  have hw:=zj_ (i:=i) (by omega)
  have hi:i<q.length:=by omega
  simp [z9a_,zya_,hlt,hx,hw,hi]
 ·intro n q
  simp [z9a_]
theorem zyc_ {k:Nat} (hk:KK≤k) {a:Int×Int×Int×(List (Int×Int×Int))} (h:z1v_ a≤10000000000):zf2_ k a=some a:=by
 have b3:(z32_ (a.2.2.2))≤10000000000:=by unfold z1v_ at h; omega
 unfold zf2_
 simp only [zyb_ hk b3,Option.bind_some] <;> rfl
theorem zyd_ {a:Int×Int×Int} :zf3_ a=some a:=by
 unfold zf3_
 rfl
theorem zye_ {k:Nat} (hk:KK≤k) {a:List (Int×Int×Int)} (h:z33_ a≤10000000000):zf4_ k a=some a:=by
 have hl:a.length≤10000000000:=Nat.le_trans (show a.length≤z33_ a by unfold z33_; omega) h
 unfold zf4_
 have hL:=z1i_
 rw [if_pos ⟨by omega,Int.le_refl _,by omega⟩]
 refine zc3_ (L:=fun n i q=>z9b_ k n a i q fun q_5=>some q_5) (e:=fun q=>some q) a _ (by simp) ?_ ?_ (n:=k) (by have:=zk_; omega)
 ·intro n i x q hx hlt hq
  have hw:=zj_ (i:=i) (by omega)
  have hi:i<q.length:=by omega
  simp [z9b_,zyd_,hlt,hx,hw,hi]
 ·intro n q
  simp [z9b_]
theorem zyf_ {k:Nat} (hk:KK≤k) {a:Int×Int×(List (Int×Int×Int))} (h:z34_ a≤10000000000):zf5_ k a=some a:=by
 have b2:(z33_ (a.2.2))≤10000000000:=by unfold z34_ at h; omega
 unfold zf5_
 simp only [zye_ hk b2,Option.bind_some] <;> rfl
theorem zyg_ {k:Nat} (hk:KK≤k) {a:(List (List Int)×Int×List Int×(List (Int×Int×Int×List Int)))×Int×List Int×List Int×(Int×Int×Int×(List (Int×Int×Int)))×List Int×List Int×(Int×Int×(List (Int×Int×Int)))×List Int} (h:z15_ a≤10000000000):z7o_ k a=some a:=by
 have b0:(zu_ (a.1))≤10000000000:=by unfold z15_ at h; omega
 have b2:(zh_ (a.2.2.1))≤10000000000:=by unfold z15_ at h; omega
 have b3:(zh_ (a.2.2.2.1))≤10000000000:=by unfold z15_ at h; omega
 have b4:(z1v_ (a.2.2.2.2.1))≤10000000000:=by unfold z15_ at h; omega
 have b5:(zh_ (a.2.2.2.2.2.1))≤10000000000:=by unfold z15_ at h; omega
 have b6:(zh_ (a.2.2.2.2.2.2.1))≤10000000000:=by unfold z15_ at h; omega
 have b7:(z34_ (a.2.2.2.2.2.2.2.1))≤10000000000:=by unfold z15_ at h; omega
 have b8:(zh_ (a.2.2.2.2.2.2.2.2))≤10000000000:=by unfold z15_ at h; omega
 unfold z7o_
 simp only [zy9_ hk b0,z6y_ hk b2,z6y_ hk b3,zyc_ hk b4,z6y_ hk b5,z6y_ hk b6,zyf_ hk b7,z6y_ hk b8,Option.bind_some] <;> rfl
theorem z6z_ {k:Nat} (hk:KK≤k) {a b:List Int} (h:zh_ a≤10000000000):z44_ k a b=some (decide (a=b)):=by
 have hle:a.length≤10000000000:=Nat.le_trans (show a.length≤zh_ a by unfold zh_; omega) h
 unfold z44_
 by_cases hl:a.length=b.length
 ·rw [if_neg (by simp [hl])]
  refine z7g_ (L:=fun n i=>z9s_ k n a b i (some true)) a b hl ?_ ?_ (n:=k) (by have:=zk_; omega)
  ·intro n i x y hx hy hlt
   have hw:=zj_ (i:=i) (by omega)
   by_cases e:x=y <;> simp [z9s_,hlt,hx,hy,hw,e]
  ·intro n
   simp [z9s_]
 ·have h2:a≠b:=fun e=>hl (by rw [e])
  have h3:¬ (a.length:Int)=b.length:=by omega
  simp [h3,h2]
theorem zyh_ {k:Nat} (hk:KK≤k) {a b:List (List Int)} (h:z21_ a≤10000000000):zfv_ k a b=some (decide (a=b)):=by
 have hle:a.length≤10000000000:=Nat.le_trans (show a.length≤z21_ a by unfold z21_; omega) h
 unfold zfv_
 by_cases hl:a.length=b.length
 ·rw [if_neg (by simp [hl])]
  refine z7g_ (L:=fun n i=>z9t_ k n a b i (some true)) a b hl ?_ ?_ (n:=k) (by have:=zk_; omega)
  ·intro n i x y hx hy hlt
   have hw:=zj_ (i:=i) (by omega)
   have hm:=z5l_ zh_ (List.mem_of_getElem? hx)
   have hb:zh_ x≤10000000000:=by unfold z21_ at h; omega
   simp only [z9t_,hlt,decide_true,if_true,Int.natCast_nonneg,Int.toNat_natCast,hx,hy,Option.bind_some,hw,z6z_ hk hb]
   by_cases e:x=y
   ·rw [decide_eq_true e,if_pos e]; simp
   ·rw [decide_eq_false e,if_neg e]; simp
  ·intro n
   simp [z9t_]
 ·have h2:a≠b:=fun e=>hl (by rw [e])
  have h3:¬ (a.length:Int)=b.length:=by omega
  simp [h3,h2]
theorem zyi_ {k:Nat} (hk:KK≤k) {a b:List (List Int)} (h:z2p_ a≤10000000000):zfw_ k a b=some (decide (a=b)):=by
 have c0:(z21_ a)≤10000000000:=by unfold z2p_ at h; omega
 unfold zfw_
 simp only [zyh_ hk c0,Option.bind_some,Prod.mk.injEq]
 by_cases x0:a=b
 case neg=>simp [x0]
 subst x0
 simp
theorem zyj_ {k:Nat} (hk:KK≤k) {a b:Int×Int×Int×List Int} (h:z1j_ a≤10000000000):zfx_ k a b=some (decide (a=b)):=by
 obtain ⟨a0,a1,a2,a3⟩:=a
 obtain ⟨b0,b1,b2,b3⟩:=b
 have c3:(zh_ a3)≤10000000000:=by unfold z1j_ at h; simp only at h; omega
 unfold zfx_
 simp only [z6z_ hk c3,Option.bind_some,Prod.mk.injEq]
 by_cases x0:a0=b0
 case neg=>simp [x0]
 subst x0
 by_cases x1:a1=b1
 case neg=>simp [x1]
 subst x1
 by_cases x2:a2=b2
 case neg=>simp [x2]
 subst x2
 by_cases x3:a3=b3
 case neg=>simp [x3]
 subst x3
 simp
theorem zyk_ {k:Nat} (hk:KK≤k) {a b:List (Int×Int×Int×List Int)} (h:z22_ a≤10000000000):zfy_ k a b=some (decide (a=b)):=by
 have hle:a.length≤10000000000:=Nat.le_trans (show a.length≤z22_ a by unfold z22_; omega) h
 unfold zfy_
 by_cases hl:a.length=b.length
 ·rw [if_neg (by simp [hl])]
  refine z7g_ (L:=fun n i=>z9u_ k n a b i (some true)) a b hl ?_ ?_ (n:=k) (by have:=zk_; omega)
  ·intro n i x y hx hy hlt
   have hw:=zj_ (i:=i) (by omega)
   have hm:=z5l_ z1j_ (List.mem_of_getElem? hx)
   have hb:z1j_ x≤10000000000:=by unfold z22_ at h; omega
   simp only [z9u_,hlt,decide_true,if_true,Int.natCast_nonneg,Int.toNat_natCast,hx,hy,Option.bind_some,hw,zyj_ hk hb]
   by_cases e:x=y
   ·rw [decide_eq_true e,if_pos e]; simp
   ·rw [decide_eq_false e,if_neg e]; simp
  ·intro n
   simp [z9u_]
 ·have h2:a≠b:=fun e=>hl (by rw [e])
  have h3:¬ (a.length:Int)=b.length:=by omega
  simp [h3,h2]
theorem zyl_ {k:Nat} (hk:KK≤k) {a b:List (List Int)×Int×List Int×(List (Int×Int×Int×List Int))} (h:zu_ a≤10000000000):zfz_ k a b=some (decide (a=b)):=by
 obtain ⟨a0,a1,a2,a3⟩:=a
 obtain ⟨b0,b1,b2,b3⟩:=b
 have c0:(z2p_ a0)≤10000000000:=by unfold zu_ at h; simp only at h; omega
 have c2:(zh_ a2)≤10000000000:=by unfold zu_ at h; simp only at h; omega
 have c3:(z22_ a3)≤10000000000:=by unfold zu_ at h; simp only at h; omega
 unfold zfz_
 simp only [zyi_ hk c0,z6z_ hk c2,zyk_ hk c3,Option.bind_some,Prod.mk.injEq]
 by_cases x0:a0=b0
 case neg=>simp [x0]
 subst x0
 by_cases x1:a1=b1
 case neg=>simp [x1]
 subst x1
 by_cases x2:a2=b2
 case neg=>simp [x2]
 subst x2
 by_cases x3:a3=b3
 case neg=>simp [x3]
 subst x3
 simp
theorem zym_ {a b:Int×Int×Int} :zg0_ a b=some (decide (a=b)):=by
 obtain ⟨a0,a1,a2⟩:=a
 obtain ⟨b0,b1,b2⟩:=b
 unfold zg0_
 simp only [Prod.mk.injEq]
 by_cases x0:a0=b0
 case neg=>simp [x0]
 subst x0
 by_cases x1:a1=b1
 case neg=>simp [x1]
 subst x1
 by_cases x2:a2=b2
 case neg=>simp [x2]
 subst x2
 simp
theorem zyn_ {k:Nat} (hk:KK≤k) {a b:List (Int×Int×Int)} (h:z32_ a≤10000000000):zg1_ k a b=some (decide (a=b)):=by
 have hle:a.length≤10000000000:=Nat.le_trans (show a.length≤z32_ a by unfold z32_; omega) h
 unfold zg1_
 by_cases hl:a.length=b.length
 ·rw [if_neg (by simp [hl])]
  refine z7g_ (L:=fun n i=>z9v_ k n a b i (some true)) a b hl ?_ ?_ (n:=k) (by have:=zk_; omega)
  ·intro n i x y hx hy hlt
   have hw:=zj_ (i:=i) (by omega)
   simp only [z9v_,hlt,decide_true,if_true,Int.natCast_nonneg,Int.toNat_natCast,hx,hy,Option.bind_some,hw,zym_]
   by_cases e:x=y
   ·rw [decide_eq_true e,if_pos e]; simp
   ·rw [decide_eq_false e,if_neg e]; simp
  ·intro n
   simp [z9v_]
 ·have h2:a≠b:=fun e=>hl (by rw [e])
  have h3:¬ (a.length:Int)=b.length:=by omega
  simp [h3,h2]
theorem zyo_ {k:Nat} (hk:KK≤k) {a b:Int×Int×Int×(List (Int×Int×Int))} (h:z1v_ a≤10000000000):zg2_ k a b=some (decide (a=b)):=by
 obtain ⟨a0,a1,a2,a3⟩:=a
 obtain ⟨b0,b1,b2,b3⟩:=b
 have c3:(z32_ a3)≤10000000000:=by unfold z1v_ at h; simp only at h; omega
 unfold zg2_
 simp only [zyn_ hk c3,Option.bind_some,Prod.mk.injEq]
 by_cases x0:a0=b0
 case neg=>simp [x0]
 subst x0
 by_cases x1:a1=b1
 case neg=>simp [x1]
 subst x1
 by_cases x2:a2=b2
 case neg=>simp [x2]
 subst x2
 by_cases x3:a3=b3
 case neg=>simp [x3]
 subst x3
 simp
theorem zyp_ {a b:Int×Int×Int} :zg3_ a b=some (decide (a=b)):=by
 obtain ⟨a0,a1,a2⟩:=a
 obtain ⟨b0,b1,b2⟩:=b
 unfold zg3_
 simp only [Prod.mk.injEq]
 by_cases x0:a0=b0
 case neg=>simp [x0]
 subst x0
 by_cases x1:a1=b1
 case neg=>simp [x1]
 subst x1
 by_cases x2:a2=b2
 case neg=>simp [x2]
 subst x2
 simp
theorem zyq_ {k:Nat} (hk:KK≤k) {a b:List (Int×Int×Int)} (h:z33_ a≤10000000000):zg4_ k a b=some (decide (a=b)):=by
 have hle:a.length≤10000000000:=Nat.le_trans (show a.length≤z33_ a by unfold z33_; omega) h
 unfold zg4_
 by_cases hl:a.length=b.length
 ·rw [if_neg (by simp [hl])]
  refine z7g_ (L:=fun n i=>z9w_ k n a b i (some true)) a b hl ?_ ?_ (n:=k) (by have:=zk_; omega)
  ·intro n i x y hx hy hlt
   have hw:=zj_ (i:=i) (by omega)
   simp only [z9w_,hlt,decide_true,if_true,Int.natCast_nonneg,Int.toNat_natCast,hx,hy,Option.bind_some,hw,zyp_]
   by_cases e:x=y
   ·rw [decide_eq_true e,if_pos e]; simp
   ·rw [decide_eq_false e,if_neg e]; simp
  ·intro n
   simp [z9w_]
 ·have h2:a≠b:=fun e=>hl (by rw [e])
  have h3:¬ (a.length:Int)=b.length:=by omega
  simp [h3,h2]
theorem zyr_ {k:Nat} (hk:KK≤k) {a b:Int×Int×(List (Int×Int×Int))} (h:z34_ a≤10000000000):zg5_ k a b=some (decide (a=b)):=by
 obtain ⟨a0,a1,a2⟩:=a
 obtain ⟨b0,b1,b2⟩:=b
 have c2:(z33_ a2)≤10000000000:=by unfold z34_ at h; simp only at h; omega
 unfold zg5_
 simp only [zyq_ hk c2,Option.bind_some,Prod.mk.injEq]
 by_cases x0:a0=b0
 case neg=>simp [x0]
 subst x0
 by_cases x1:a1=b1
 case neg=>simp [x1]
 subst x1
 by_cases x2:a2=b2
 case neg=>simp [x2]
 subst x2
 simp
theorem zys_ {k:Nat} (hk:KK≤k) {a b:(List (List Int)×Int×List Int×(List (Int×Int×Int×List Int)))×Int×List Int×List Int×(Int×Int×Int×(List (Int×Int×Int)))×List Int×List Int×(Int×Int×(List (Int×Int×Int)))×List Int} (h:z15_ a≤10000000000):zg6_ k a b=some (decide (a=b)):=by
 obtain ⟨a0,a1,a2,a3,a4,a5,a6,a7,a8⟩:=a
 obtain ⟨b0,b1,b2,b3,b4,b5,b6,b7,b8⟩:=b
 have c0:(zu_ a0)≤10000000000:=by unfold z15_ at h; simp only at h; omega
 have c2:(zh_ a2)≤10000000000:=by unfold z15_ at h; simp only at h; omega
 have c3:(zh_ a3)≤10000000000:=by unfold z15_ at h; simp only at h; omega
 have c4:(z1v_ a4)≤10000000000:=by unfold z15_ at h; simp only at h; omega
 have c5:(zh_ a5)≤10000000000:=by unfold z15_ at h; simp only at h; omega
 have c6:(zh_ a6)≤10000000000:=by unfold z15_ at h; simp only at h; omega
 have c7:(z34_ a7)≤10000000000:=by unfold z15_ at h; simp only at h; omega
 have c8:(zh_ a8)≤10000000000:=by unfold z15_ at h; simp only at h; omega
 unfold zg6_
 simp only [zyl_ hk c0,z6z_ hk c2,z6z_ hk c3,zyo_ hk c4,z6z_ hk c5,z6z_ hk c6,zyr_ hk c7,z6z_ hk c8,Option.bind_some,Prod.mk.injEq]
 by_cases x0:a0=b0
 case neg=>simp [x0]
 subst x0
 by_cases x1:a1=b1
 case neg=>simp [x1]
 subst x1
 by_cases x2:a2=b2
 case neg=>simp [x2]
 subst x2
 by_cases x3:a3=b3
 case neg=>simp [x3]
 subst x3
 by_cases x4:a4=b4
 case neg=>simp [x4]
 subst x4
 by_cases x5:a5=b5
 case neg=>simp [x5]
 subst x5
 by_cases x6:a6=b6
 case neg=>simp [x6]
 subst x6
 by_cases x7:a7=b7
 case neg=>simp [x7]
 subst x7
 by_cases x8:a8=b8
 case neg=>simp [x8]
 subst x8
 simp
theorem zyt_ (x:(List (List Int)×Int×List Int×(List (Int×Int×Int×List Int)))×Int×List Int×List Int×(Int×Int×Int×(List (Int×Int×Int)))×List Int×List Int×(Int×Int×(List (Int×Int×Int)))×List Int):((x.1.1,(x.1.2.1,(x.1.2.2.1,x.1.2.2.2))),(x.2.1,(x.2.2.1,(x.2.2.2.1,((x.2.2.2.2.1.1,(x.2.2.2.2.1.2.1,(x.2.2.2.2.1.2.2.1,x.2.2.2.2.1.2.2.2))),(x.2.2.2.2.2.1,(x.2.2.2.2.2.2.1,((x.2.2.2.2.2.2.2.1.1,(x.2.2.2.2.2.2.2.1.2.1,x.2.2.2.2.2.2.2.1.2.2)),x.2.2.2.2.2.2.2.2))))))))=x:=rfl
theorem zyu_ {a b:Int×List UInt8×List UInt8} (h:z8d_ a≤10000000000):zfu_ a b=some (decide (a=b)):=by
 obtain ⟨a0,a1,a2⟩:=a
 obtain ⟨b0,b1,b2⟩:=b
 unfold zfu_
 simp only [Prod.mk.injEq]
 by_cases x0:a0=b0
 case neg=>simp [x0]
 subst x0
 by_cases x1:a1=b1
 case neg=>simp [x1]
 subst x1
 by_cases x2:a2=b2
 case neg=>simp [x2]
 subst x2
 simp
theorem zyv_ {k:Nat} (hk:KK≤k) {a b:List (Int×List UInt8×List UInt8)} (h:z6w_ a≤10000000000):z7m_ k a b=some (decide (a=b)):=by
 have hle:a.length≤10000000000:=Nat.le_trans (show a.length≤z6w_ a by unfold z6w_; omega) h
 unfold z7m_
 by_cases hl:a.length=b.length
 ·rw [if_neg (by simp [hl])]
  refine z7g_ (L:=fun n i=>z9r_ k n a b i (some true)) a b hl ?_ ?_ (n:=k) (by have:=zk_; omega)
  ·intro n i x y hx hy hlt
   have hw:=zj_ (i:=i) (by omega)
   have hm:=z5l_ z8d_ (List.mem_of_getElem? hx)
   have hb:z8d_ x≤10000000000:=by unfold z6w_ at h; omega
   simp only [z9r_,hlt,decide_true,if_true,Int.natCast_nonneg,Int.toNat_natCast,hx,hy,Option.bind_some,hw,zyu_ hb]
   by_cases e:x=y
   ·rw [decide_eq_true e,if_pos e]; simp
   ·rw [decide_eq_false e,if_neg e]; simp
  ·intro n
   simp [z9r_]
 ·have h2:a≠b:=fun e=>hl (by rw [e])
  have h3:¬ (a.length:Int)=b.length:=by omega
  simp [h3,h2]
theorem zb1_ {k:Nat} {w:Wrk} (h:z4a_ k w=true):sheB k w.1=true∧(0≤w.2.1∧w.2.1≤3)∧colB w.2.2.1 (zg_ w.1.2.2.1 (ofC w.1.1 w.2.1)) w.1.2.1=true∧colB w.2.2.2.1 (zg_ w.1.2.2.1 (ofC w.1.1 0)) w.1.2.1=true∧netB w.2.2.2.2.1=true∧z4t_ w.2.2.2.2.2.2.2.1=true∧colB w.2.2.2.2.2.2.2.2 w.2.2.2.2.2.2.2.1.1 w.2.2.2.2.2.2.2.1.2.1=true:=by
 unfold z4a_ at h
 simp only [Bool.and_eq_true,decide_eq_true_eq] at h
 exact ⟨h.1,h.2.1,h.2.2.1,h.2.2.2.1,h.2.2.2.2.1,h.2.2.2.2.2.1,h.2.2.2.2.2.2⟩
theorem zyw_ {k:Nat} (hk:KK≤k) {a:Wrk} (h:z15_ a≤1048576):∃ y,zcb_ k a.1.2.1 a.2.1 a.2.2.2.2.1.1 a.2.2.2.2.1.2.1 a.2.2.2.2.1.2.2.1 a.2.2.2.2.2.2.2.1.1 a.2.2.2.2.2.2.2.1.2.1 1 a.1.1 a.1.2.2.1 a.1.2.2.2 a.2.2.1 a.2.2.2.1 a.2.2.2.2.1.2.2.2 a.2.2.2.2.2.1 a.2.2.2.2.2.2.1 a.2.2.2.2.2.2.2.1.2.2 a.2.2.2.2.2.2.2.2=some y∧¬ y.1.1<0:=by
 have e:z15_ a=zu_ a.1+a.2.2.1.length+a.2.2.2.1.length+a.2.2.2.2.1.2.2.2.length+a.2.2.2.2.2.1.length+a.2.2.2.2.2.2.1.length+a.2.2.2.2.2.2.2.1.2.2.length+a.2.2.2.2.2.2.2.2.length:=rfl
 have e2:zu_ a.1=z21_ a.1.1+a.1.2.2.1.length+z22_ a.1.2.2.2:=rfl
 exact zy4_ hk _ _ _ _ _ _ _ (by omega) (by omega) (by omega) (by omega) (by omega) (by omega) (by omega) (by omega) (by omega) (by omega)
noncomputable def pbR (s:She) (y:Int):Prb:=match s.1[y.toNat]? with
 | some t=>(3,(z4s_ t,[100,105,115,97,103,114,101,101]))
 | none=>(0,([],[]))
noncomputable def z5n_ (s:She) (v:List Int):List Int:=badL s (appV (cobM s (zg_ s.2.2.1 (ofC s.1 1)).toNat (zg_ s.2.2.1 (ofC s.1 0)).toNat) v (zg_ s.2.2.1 (ofC s.1 0)).toNat (zg_ s.2.2.1 (ofC s.1 1)).toNat) (ofC s.1 1).length
noncomputable def z35_ (s:She) (v:List Int):List Prb:=(z5n_ s v).map (pbR s)
theorem zqn_ {α β:Type} (f:α→β) {l:List α} {i:Nat} {y:α} (h:l[i]?=some y):(l.take (i+1)).map f=(l.take i).map f++[f y]:=by
 rw [List.take_add_one,h,List.map_append]; rfl
theorem fitS {c:Cx} (h:CxP c) {i:Nat} {t:List Int} (ht:c[i]?=some t):fitL t:=by
 have hs:=h.simp t (List.mem_of_getElem? ht)
 exact ⟨by have:=hs.len4; omega,fun x hx=>by have:=hs.vert x hx; omega⟩
theorem zlo_ {k:Nat} (hk:KK≤k) {s:She} (hs:smallSh s) (h:sheB k s=true) {v:List Int} (hv:colB v (zg_ s.2.2.1 (ofC s.1 0)) s.2.1=true):zcj_ k s v=some (z5n_ s v)∧zc9_ k s v=some (z5n_ s v)∧(z5n_ s v).length≤48∧∀ y∈z5n_ s v,0≤y∧y.toNat<s.1.length:=by
 obtain ⟨hCx,hp,hS⟩:=z1u_ hk h
 obtain ⟨R,hR,hR2⟩:=zqb_ hk h 1 (by omega)
 obtain ⟨C,hC,hC2⟩:=zqb_ hk h 0 (by omega)
 have hR:zg_ s.2.2.1 (ofC s.1 1)=(R:Int):=hR
 have hC:zg_ s.2.2.1 (ofC s.1 0)=(C:Int):=hC
 unfold colB at hv
 rw [hC] at hv
 simp only [Bool.and_eq_true,decide_eq_true_eq,List.all_eq_true] at hv
 have hl:v.length=C:=by omega
 have e:z5n_ s v=badL s (appV (cobM s R C) v C R) (ofC s.1 1).length:=by unfold z5n_; rw [hR,hC,Int.toNat_natCast,Int.toNat_natCast]
 rw [e]
 refine ⟨zxd_ hk hs h hR hC hR2 hC2 hl hv.1,zxe_ hk hs h hR hC hR2 hC2 hl hv.1,?_,fun y hy=>zxc_ hy⟩
 have h1:=zlm_ s (appV (cobM s R C) v C R) (ofC s.1 1).length
 have h2:=z89_ s.1 1
 have h3:=hCx.len
 omega
theorem zyx_ {k:Nat} (hk:KK≤k) {w:Wrk} (hs:smallSh w.1) (h:sheB k w.1=true) (hv:colB w.2.2.2.1 (zg_ w.1.2.2.1 (ofC w.1.1 0)) w.1.2.1=true):zgz_ k w=some (z35_ w.1 w.2.2.2.1):=by
 have hK:=zk_
 obtain ⟨f1,f2,f3,f4⟩:=zlo_ hk hs h hv
 obtain ⟨hCx,hp,hS⟩:=z1u_ hk h
 unfold zgz_ z35_
 rw [f1]
 simp only [Option.bind_some]
 generalize z5n_ w.1 w.2.2.2.1=W at *
 have:=z20_ (S:=List Prb) (R:=Option (List Prb)) (L:=fun m i q=>zao_ k m w i q W (fun q_7=>some q_7)) (b:=W.length) (st:=fun i=>(W.take i).map (pbR w.1)) (e:=some (W.map (pbR w.1))) ?_ ?_ (n:=k) (by omega)
 ·simpa using this
 ·intro m i hi
  have hlt:(i:Int)<(W.length:Int):=by omega
  have hw:=zj_ (i:=i) (by omega)
  have hg:W[i]?=some W[i]:=List.getElem?_eq_getElem hi
  obtain ⟨y0,y1⟩:=f4 W[i] (List.getElem_mem hi)
  have hga:w.1.1[(W[i]).toNat]?=some w.1.1[(W[i]).toNat]:=List.getElem?_eq_getElem y1
  have ht:=zx6_ hk (fitS hCx hga)
  have hpb:pbR w.1 W[i]=(3,(z4s_ w.1.1[(W[i]).toNat],[100,105,115,97,103,114,101,101])):=by unfold pbR; rw [hga]
  have hL:(((W.take i).map (pbR w.1)).length+1)*40≤LIM:=by unfold LIM; rw [List.length_map,List.length_take]; omega
  simp only [zao_,hlt,decide_true,if_true,Int.natCast_nonneg,Int.toNat_natCast,hi,and_self,hg,Option.bind_some,y0,hga,ht,List.length_singleton,hL,hw,zqn_ (pbR w.1) hg,hpb]
 ·intro m
  simp only [zao_,Int.lt_irrefl,decide_false,Bool.false_eq_true,if_false,List.take_length]
theorem zyy_ {k:Nat} (hk:KK≤k) {w:Wrk} (hs:smallSh w.1) (h:sheB k w.1=true) (hv:colB w.2.2.2.1 (zg_ w.1.2.2.1 (ofC w.1.1 0)) w.1.2.1=true):zfs_ k w=some (z35_ w.1 w.2.2.2.1):=by
 have hK:=zk_
 obtain ⟨f1,f2,f3,f4⟩:=zlo_ hk hs h hv
 obtain ⟨hCx,hp,hS⟩:=z1u_ hk h
 unfold zfs_ z35_
 rw [f2]
 simp only [Option.bind_some]
 generalize z5n_ w.1 w.2.2.2.1=W at *
 have:=z20_ (S:=List Prb) (R:=Option (List Prb)) (L:=fun m i q=>z9q_ k m (W.length:Int) i q W w (fun q_7=>some q_7)) (b:=W.length) (st:=fun i=>(W.take i).map (pbR w.1)) (e:=some (W.map (pbR w.1))) ?_ ?_ (n:=k) (by omega)
 ·simpa using this
 ·intro m i hi
  have hlt:(i:Int)<(W.length:Int):=by omega
  have hw:=zj_ (i:=i) (by omega)
  have hg:W[i]?=some W[i]:=List.getElem?_eq_getElem hi
  obtain ⟨y0,y1⟩:=f4 W[i] (List.getElem_mem hi)
  have hga:w.1.1[(W[i]).toNat]?=some w.1.1[(W[i]).toNat]:=List.getElem?_eq_getElem y1
  have ht:=zx7_ hk (fitS hCx hga)
  have hpb:pbR w.1 W[i]=(3,(z4s_ w.1.1[(W[i]).toNat],[100,105,115,97,103,114,101,101])):=by unfold pbR; rw [hga]
  have hL:(((W.take i).map (pbR w.1)).length+1)*40≤LIM:=by unfold LIM; rw [List.length_map,List.length_take]; omega
  simp only [z9q_,hlt,decide_true,if_true,Int.natCast_nonneg,Int.toNat_natCast,hi,and_self,hg,Option.bind_some,y0,hga,ht,List.length_singleton,hL,hw,zqn_ (pbR w.1) hg,hpb]
 ·intro m
  simp only [z9q_,Int.lt_irrefl,decide_false,Bool.false_eq_true,if_false,List.take_length]
theorem zlp_ {k:Nat} (hk:KK≤k) {w:Wrk} (hs:smallSh w.1) (h:sheB k w.1=true) (hv:colB w.2.2.2.1 (zg_ w.1.2.2.1 (ofC w.1.1 0)) w.1.2.1=true):(z35_ w.1 w.2.2.2.1).length≤48:=by
 obtain ⟨_,_,f3,_⟩:=zlo_ hk hs h hv
 unfold z35_
 rw [List.length_map]
 exact f3
theorem zqo_ {α:Type} (f:α→Nat) (B:Nat):∀ l:List α,(∀ x∈l,f x≤B)→sumL f l≤l.length*B
 | [],_=>by simp [sumL]
 | x::l,h=>by
  have h1:=zqo_ f B l fun y hy=>h y (List.mem_cons_of_mem _ hy)
  have h2:=h x (List.mem_cons_self)
  rw [z3o_,List.length_cons,Nat.add_mul]
  omega
theorem zyz_ {k:Nat} (hk:KK≤k) {w:Wrk} (hs:smallSh w.1) (h:sheB k w.1=true) (hv:colB w.2.2.2.1 (zg_ w.1.2.2.1 (ofC w.1.1 0)) w.1.2.1=true):z6w_ (z35_ w.1 w.2.2.2.1)≤100000:=by
 have hl:=zlp_ hk hs h hv
 obtain ⟨hCx,hp,hS⟩:=z1u_ hk h
 have hs:sumL z8d_ (z35_ w.1 w.2.2.2.1)≤(z35_ w.1 w.2.2.2.1).length*600:=by
  refine zqo_ _ _ _ fun y hy=>?_
  unfold z35_ at hy
  obtain ⟨j,_,rfl⟩:=List.mem_map.1 hy
  unfold pbR
  cases hg:w.1.1[j.toNat]? with
  | none=>simp [z8d_]
  | some a =>
   have:=(zx5_ (fitS hCx hg)).1
   simp only [z8d_,List.length_cons,List.length_nil]
   omega
 unfold z6w_
 omega
theorem zz0_ {k:Nat} (hk:KK≤k) {w:Wrk} (hs:smallW w):zge_ k w=some (if z4a_ k w=true then (z35_ w.1 w.2.2.2.1,0) else ([],1)):=by
 unfold zge_ zkl_
 rw [zxh_ hk hs]
 cases h:z4a_ k w
 ·simp
 ·have hn:=zb1_ h
  simp [zyx_ hk hs.sh hn.1 hn.2.2.2.1]
theorem zz1_ {k:Nat} (hk:KK≤k) {w:Wrk} (hs:smallW w):zca_ k w=some (if z4a_ k w=true then (z35_ w.1 w.2.2.2.1,0) else ([],1)):=by
 have hK:=zk_
 obtain ⟨j,rfl⟩:∃ j,k=j+2:=⟨k-2,by omega⟩
 unfold zca_ zjz_
 rw [zxi_ hk hs]
 cases h:z4a_ (j+2) w
 ·simp
 ·have hn:=zb1_ h
  have hl:=zlp_ hk hs.sh hn.1 hn.2.2.2.1
  have hL:(([]:List Prb).length+(z35_ w.1 w.2.2.2.1).length)*40≤LIM:=by unfold LIM; simp only [List.length_nil]; omega
  have c1:((1:Nat):Int)=1:=rfl
  have w1:z0_ (0+1)=1:=w_id (by omega) (by omega)
  simp only [Option.bind_some,Bool.not_true,Bool.false_eq_true,if_false,if_true,zft_,List.length_cons,List.length_nil,Nat.zero_add,c1,Int.toNat_zero,Int.zero_lt_one,decide_true,Int.le_refl,List.getElem?_cons_zero,zyy_ hk hs.sh hn.1 hn.2.2.2.1,hL,w1,Int.lt_irrefl,decide_false,List.nil_append]
  rw [if_pos (by unfold LIM; omega)]
  rfl
theorem zz2_ {e0 e1 e2 e3 e4 e5 e6 e7 e8 e9 e10 e11:TypeId} (a0:Wrk) (f0:InR (.st (.pr (.st (.pr (.st (.sl e0 (.sl e1 (.int .i64)))) (.pr (.int .i64) (.pr (.sl e2 (.int .i64)) (.sl e3 (.st (.pr (.int .i64) (.pr (.int .i64) (.pr (.int .i64) (.sl e4 (.int .i64))))))))))) (.pr (.int .i64) (.pr (.sl e5 (.int .i64)) (.pr (.sl e6 (.int .i64)) (.pr (.st (.pr (.int .i64) (.pr (.int .i64) (.pr (.int .i64) (.sl e7 (.st (.pr (.int .i64) (.pr (.int .i64) (.int .i64))))))))) (.pr (.sl e8 (.int .i64)) (.pr (.sl e9 (.int .i64)) (.pr (.st (.pr (.int .i64) (.pr (.int .i64) (.sl e10 (.st (.pr (.int .i64) (.pr (.int .i64) (.int .i64)))))))) (.sl e11 (.int .i64))))))))))) a0):∃ k:Nat,zgd_ k a0=some true:=by
 have hk:=Nat.le_refl KK
 refine ⟨KK,?_⟩
 have q0:=zxt_ hk (a:=a0) (left:=1048576) (by omega) (by omega) f0
 unfold zgd_
 rw [q0]
 by_cases c0:(z15_ a0:Int)≤1048576
 case neg=>rw [if_neg c0]; simp only [Option.bind_some]; rw [decide_eq_true (by omega),if_pos rfl]
 rw [if_pos c0]; simp only [Option.bind_some]
 rw [decide_eq_false (by omega),if_neg (by simp)]
 have b0:z15_ a0≤10000000000:=by omega
 have hs:=zxu_ (w:=a0) (by omega)
 have e:z15_ a0=zu_ a0.1+a0.2.2.1.length+a0.2.2.2.1.length+a0.2.2.2.2.1.2.2.2.length+a0.2.2.2.2.2.1.length+a0.2.2.2.2.2.2.1.length+a0.2.2.2.2.2.2.2.1.2.2.length+a0.2.2.2.2.2.2.2.2.length:=rfl
 have h1:=zz0_ hk hs
 have h2:=zz1_ hk hs
 obtain ⟨y,hy,hy0⟩:=zyw_ hk (a:=a0) (by omega)
 obtain ⟨r,hr⟩:∃ r:List Prb×Int,r=if z4a_ KK a0=true then (z35_ a0.1 a0.2.2.2.1,0) else ([],1):=⟨_,rfl⟩
 rw [← hr] at h1 h2
 have hl:r.1.length≤48:=by
  rw [hr]
  split
  ·rename_i hb
   exact zlp_ hk hs.sh (zb1_ hb).1 (zb1_ hb).2.2.2.1
  ·simp
 have hz:z6w_ r.1≤100000:=by
  rw [hr]
  split
  ·rename_i hb
   exact zyz_ hk hs.sh (zb1_ hb).1 (zb1_ hb).2.2.2.1
  ·simp [z6w_,sumL]
 obtain ⟨m,q,hm,hq,hm0⟩:=zwi_ hk (L:=r.1) (by omega)
 have heq:z7m_ KK r.1 r.1=some true:=(zyv_ hk (a:=r.1) (b:=r.1) (by omega)).trans (congrArg some (decide_eq_true rfl))
 simp only [zyg_ hk b0,Option.bind_some,zyt_,h1,h2,heq,zys_ hk b0,hy,hy0,hm,hq,hm0,decide_true,decide_false,Bool.not_true,Bool.false_eq_true,if_false]
end Go.Proofs.YtioaaljaohhjiaaGreatDoor.Ev
