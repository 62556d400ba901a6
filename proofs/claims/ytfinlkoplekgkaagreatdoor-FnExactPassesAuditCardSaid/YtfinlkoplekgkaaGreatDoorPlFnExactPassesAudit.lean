/- Plain laws of the printed functions. No conditions but those in each statement. -/
import Derived.Test.YtfinlkoplekgkaaGreatDoorPmFnExactPassesAudit
set_option linter.unusedVariables false
set_option linter.unusedSimpArgs false
namespace Go.Proofs.YtfinlkoplekgkaaGreatDoor.Ev
open Go.RowKit
theorem z18i {k:Nat} (hk:KK≤k) {s:She} (hs:smallSh s) (h:zy k s=true):∀ (j:Nat) (t:List Int),s.1[j]?=some t→2<t.length→∀ E:List (List Int)→Int→Int→She→Option (Int×Int×Bool),z50 s j=true→z69 k k t (j:Int) s.1 (s.1.length:Int) (j:Int) (t.length:Int) 0 ((ze s.1 t).map fun i:Nat=>(i:Int)) s E=E s.1 (s.1.length:Int) (j:Int) s:=by
 have hK:=zg
 obtain ⟨hC,_,_⟩:=z1a hk h
 intro j t hj h3 E hc
 have h4:=(hC.simp t (List.mem_of_getElem? hj)).len4
 unfold z50 at hc
 rw [hj] at hc
 simp only at hc
 rw [if_pos h3] at hc
 refine (zbb (L:=fun n i=>z69 k n t (j:Int) s.1 (s.1.length:Int) (j:Int) (t.length:Int) i ((ze s.1 t).map fun i:Nat=>(i:Int)) s E) (b:=t.length) (p:=z6q s j t) (e:=E s.1 (s.1.length:Int) (j:Int) s) (Q:=fun _=>True) ?_ (fun _ _ _ _=>trivial) ?_ (n:=k) (by omega)).1 hc
 ·intro n i hi hp
  have hlt:(i:Int)<(t.length:Int):=by omega
  have hw:=zd (i:=i) (by omega)
  have:=(z189 hk hs h hj h3 hi s.1 (s.1.length:Int) (j:Int) (t.length:Int) (i:Int) (fun t_4 simplex_5 x_6 x_7 x_8 x_9 x_10 q_11 v_12=>z69 k n t_4 simplex_5 x_6 x_7 x_8 x_9 (z6 (x_10+1)) q_11 v_12 E)).1 hp
  simp only [z69,hlt,decide_true,if_true,hw,this]
 ·intro n
  simp only [z69,Int.lt_irrefl,decide_false,Bool.false_eq_true,if_false]
theorem z1qh {k:Nat} (hk:KK≤k) {s:She} (hs:smallSh s) (h:zy k s=true) {j i d:Nat} {t:List Int} (F:FirstW s j t i d):∃ c:Nat,zfe k s=some ((j:Int),(c:Int),true)∧s.1[c]?=some (zw (zw t i) (i+d)):=by
 have hK:=zg
 obtain ⟨hC,_,_⟩:=z1a hk h
 have hcl:=hC.len
 have hj:=F.hj
 have hjl:=(List.getElem?_eq_some_iff.1 hj).1
 have h4:=(hC.simp t (List.mem_of_getElem? hj)).len4
 have h3:=F.h3
 have hi:=F.hi
 have hdd:=F.hd
 obtain ⟨c,f1,f2,f3,f4,f5⟩:=z1qg hC hj h3 hi (i2:=i+d) (by omega)
 refine ⟨c,?_,f5⟩
 have hF:∀ i,i<t.length→i<(ze s.1 t).length∧((ze s.1 t).map fun i:Nat=>(i:Int))[i]?=some (((ze s.1 t).getD i 0:Nat):Int):=fun i hi=>by
  obtain ⟨f1,f2,_⟩:=zjo hC hj h3 hi
  exact ⟨by omega,by rw [List.getElem?_map,f2]; rfl⟩
 have l2:∀ (x15:List (List Int)) (x16 x17 x31 x32:Int) (E:List Int→Int→List (List Int)→Int→Int→Int→Int→List Int→She→Option (Int×Int×Bool)),z32 k k t (j:Int) (i:Int) ((i+1:Nat):Int) x15 x16 x17 x31 x32 ((ze s.1 t).map fun i:Nat=>(i:Int)) s E=some ((j:Int),(c:Int),true):=by
  intro x15 x16 x17 x31 x32 E
  have step:∀ n d,d<t.length-(i+1)→z32 k (n+1) t (j:Int) (i:Int) ((i+1+d:Nat):Int) x15 x16 x17 x31 x32 ((ze s.1 t).map fun i:Nat=>(i:Int)) s E=(if (!decide (sqS s j t i (i+1+d)=sqS s j t (i+1+d) i))=true then (z9i k s.1 (((ze s.1 t).getD i 0:Nat):Int)).bind fun r_15=>(if 0≤((i+1+d-1:Nat):Int)∧(((i+1+d-1:Nat):Int)).toNat<List.length r_15 then (r_15[(((i+1+d-1:Nat):Int)).toNat]?).bind fun y_16=>some ((j:Int),y_16,true) else none) else z32 k n t (j:Int) (i:Int) ((i+1+d+1:Nat):Int) x15 x16 x17 x31 x32 ((ze s.1 t).map fun i:Nat=>(i:Int)) s E):=by
   intro n d hd
   have hi2:i+1+d<t.length:=by omega
   have hlt:((i+1+d:Nat):Int)<(t.length:Int):=by omega
   have hw:=zd (i:=i+1+d) (by omega)
   have hw1:z6 (((i+1+d:Nat):Int)-1)=((i+1+d-1:Nat):Int):=by rw [zf (by omega) (by omega)]; omega
   obtain ⟨a1,a2,a3⟩:=zpy hk hs h hj h3 hi hi2 (by omega)
   obtain ⟨b1,b2,b3⟩:=zpy hk hs h hj h3 hi2 hi (by omega)
   rw [if_pos (by omega)] at a2 a3
   rw [if_neg (by omega)] at b2 b3
   obtain ⟨g1,g2⟩:=hF i hi
   obtain ⟨g3,g4⟩:=hF (i+1+d) hi2
   simp only [z32,hlt,decide_true,if_true,a1,Option.bind_some,List.length_map,Int.natCast_nonneg,Int.toNat_natCast,g1,and_self,g2,hw1,a2,a3,b1,g3,g4,b2,b3,z185 hk (zh5 hk hs h hj h3 hi hi2 (by omega)),hw]
  have key:=zh6 (L:=fun n z=>z32 k n t (j:Int) (i:Int) (((i+1:Nat):Int)+z) x15 x16 x17 x31 x32 ((ze s.1 t).map fun i:Nat=>(i:Int)) s E) (b:=t.length-(i+1)) (i0:=d) (p:=fun d=>zdm s j t i (i+1+d)) (e:=some ((j:Int),(c:Int),true)) (by omega) F.d0 ?_ ?_ (n:=k) (by omega)
  ·rw [Int.add_zero] at key
   exact key
  ·intro n d hd hp
   have e1:((i+1:Nat):Int)+(d:Int)=((i+1+d:Nat):Int):=by omega
   have e2:((i+1:Nat):Int)+((d+1:Nat):Int)=((i+1+d+1:Nat):Int):=by omega
   have hp':decide (sqS s j t i (i+1+d)=sqS s j t (i+1+d) i)=true:=hp
   show z32 k (n+1) t (j:Int) (i:Int) (((i+1:Nat):Int)+(d:Int)) x15 x16 x17 x31 x32 ((ze s.1 t).map fun i:Nat=>(i:Int)) s E=z32 k n t (j:Int) (i:Int) (((i+1:Nat):Int)+((d+1:Nat):Int)) x15 x16 x17 x31 x32 ((ze s.1 t).map fun i:Nat=>(i:Int)) s E
   rw [e1,e2,step n d hd,if_neg (by rw [hp']; simp)]
  ·intro n
   have e1:((i+1:Nat):Int)+(d:Int)=((i+1+d:Nat):Int):=by omega
   have hp':decide (sqS s j t i (i+1+d)=sqS s j t (i+1+d) i)=false:=F.dn
   have hlen:=(List.getElem?_eq_some_iff.1 f4).1
   have hgf:((ze s.1 (zw t i)).map fun i:Nat=>(i:Int))[i+d]?=some (c:Int):=by rw [List.getElem?_map,f4]; rfl
   show z32 k (n+1) t (j:Int) (i:Int) (((i+1:Nat):Int)+(d:Int)) x15 x16 x17 x31 x32 ((ze s.1 t).map fun i:Nat=>(i:Int)) s E=_
   rw [e1,step n d (by omega),if_pos (by rw [hp']; rfl),zb8 hk hC f3,show i+1+d-1=i+d by omega]
   simp only [Option.bind_some,List.length_map,Int.natCast_nonneg,Int.toNat_natCast,hlen,and_self,if_true,hgf]
 have l1:∀ E:List (List Int)→Int→Int→She→Option (Int×Int×Bool),z69 k k t (j:Int) s.1 (s.1.length:Int) (j:Int) (t.length:Int) 0 ((ze s.1 t).map fun i:Nat=>(i:Int)) s E=some ((j:Int),(c:Int),true):=by
  intro E
  refine zh6 (L:=fun n i=>z69 k n t (j:Int) s.1 (s.1.length:Int) (j:Int) (t.length:Int) i ((ze s.1 t).map fun i:Nat=>(i:Int)) s E) (b:=t.length) (i0:=i) (p:=z6q s j t) F.hi F.i0 ?_ ?_ (n:=k) (by omega)
  ·intro n i hi hp
   have hlt:(i:Int)<(t.length:Int):=by omega
   have hw:=zd (i:=i) (by omega)
   have:=(z189 hk hs h hj h3 hi s.1 (s.1.length:Int) (j:Int) (t.length:Int) (i:Int) (fun t_4 simplex_5 x_6 x_7 x_8 x_9 x_10 q_11 v_12=>z69 k n t_4 simplex_5 x_6 x_7 x_8 x_9 (z6 (x_10+1)) q_11 v_12 E)).1 hp
   simp only [z69,hlt,decide_true,if_true,hw,this]
  ·intro n
   have hlt:(i:Int)<(t.length:Int):=by omega
   have hw:=zd (i:=i) (by omega)
   simp only [z69,hlt,decide_true,if_true,hw,l2]
 have inner:=z18i hk hs h
 unfold zfe
 refine zh6 (L:=fun n i=>z8b k n s.1 (s.1.length:Int) i s (some (0,0,false))) (b:=s.1.length) (i0:=j) (p:=z50 s) hjl F.j0 ?_ ?_ (n:=k) (by omega)
 ·intro n j hj hp
  have hlt:(j:Int)<(s.1.length:Int):=by omega
  have hw:=zd (i:=j) (by omega)
  have hg:s.1[j]?=some s.1[j]:=List.getElem?_eq_getElem hj
  simp only [z8b,hlt,decide_true,if_true,Int.natCast_nonneg,Int.toNat_natCast,hg,Option.bind_some,hw,zb8 hk hC hg]
  by_cases h3:2<(s.1[j]).length
  ·rw [decide_eq_false (by omega),if_neg (by simp),inner j _ hg h3 _ hp,hw]
  ·rw [decide_eq_true (by omega),if_pos rfl]
 ·intro n
  have hlt:(j:Int)<(s.1.length:Int):=by omega
  simp only [z8b,hlt,decide_true,if_true,Int.natCast_nonneg,Int.toNat_natCast,hj,Option.bind_some,zb8 hk hC hj]
  rw [decide_eq_false (by omega),if_neg (by simp),l1]
theorem z1qi {k:Nat} (hk:KK≤k) {s:She} (hs:smallSh s) (h:zy k s=true) (ha:(List.range s.1.length).all (z50 s)=true):zfe k s=some ((0:Int),0,false):=by
 have hK:=zg
 obtain ⟨hC,_,_⟩:=z1a hk h
 have hcl:=hC.len
 have inner:=z18i hk hs h
 unfold zfe
 refine (zbb (L:=fun n i=>z8b k n s.1 (s.1.length:Int) i s (some (0,0,false))) (b:=s.1.length) (p:=z50 s) (e:=some ((0:Int),(0:Int),false)) (Q:=fun _=>True) ?_ (fun _ _ _ _=>trivial) ?_ (n:=k) (by omega)).1 ha
 ·intro n j hj hp
  have hlt:(j:Int)<(s.1.length:Int):=by omega
  have hw:=zd (i:=j) (by omega)
  have hg:s.1[j]?=some s.1[j]:=List.getElem?_eq_getElem hj
  simp only [z8b,hlt,decide_true,if_true,Int.natCast_nonneg,Int.toNat_natCast,hg,Option.bind_some,hw,zb8 hk hC hg]
  by_cases h3:2<(s.1[j]).length
  ·rw [decide_eq_false (by omega),if_neg (by simp),inner j _ hg h3 _ hp,hw]
  ·rw [decide_eq_true (by omega),if_pos rfl]
 ·intro n
  simp only [z8b,Int.lt_irrefl,decide_false,Bool.false_eq_true,if_false]
abbrev Edg:=Int×Int×Int
def zdo (a b:Edg):Bool:=decide (a.1<b.1∨(a.1=b.1∧a.2.1<b.2.1))
def zh7 (l:List Edg) (i:Nat) (e:Edg):Bool:=if 0<i then (match l[i-1]? with | some z=>zdo z e | none=>false) else true
theorem z18j (a b:Edg):decide (0≤(if cI a.1 b.1=0 then cI a.2.1 b.2.1 else cI a.1 b.1))=!zdo a b:=by
 unfold zdo cI
 rw [← decide_not]
 refine decide_eq_decide.2 ?_
 by_cases h1:a.1<b.1
 ·simp [h1]
 ·by_cases h2:b.1<a.1
  ·have:¬ a.1=b.1:=by omega
   simp [h1,h2,this]
  ·have e:a.1=b.1:=by omega
   by_cases h3:a.2.1<b.2.1
   ·simp [e,h3]
   ·by_cases h4:b.2.1<a.2.1 <;> simp [e,h3,h4]
abbrev Net:=Int×Int×Int×List Edg
def z8j (n:Net) (i:Nat):Bool:=match n.2.2.2[i]? with
 | some a=>decide (0≤a.1∧a.1≤z6 (n.1-1))&&(decide (0≤a.2.1∧a.2.1≤z6 (n.1-1))&&(!decide (a.1=a.2.1)&&(decide (0≤a.2.2∧a.2.2≤1000000)&&zh7 n.2.2.2 i a)))
 | none=>false
def z2s (n:Net):Bool:=decide (2≤n.1∧n.1≤12)&&(decide (0≤n.2.1∧n.2.1≤z6 (n.1-1))&&(decide (0≤n.2.2.1∧n.2.2.1≤z6 (n.1-1))&&(!decide (n.2.1=n.2.2.1)&&((List.range n.2.2.2.length).all (z8j n)&&decide (n.2.2.2.length≤24)))))
theorem z1qj {k:Nat} (hk:KK≤k) {n:Net} (hn:n.2.2.2.length≤1048576):znj k n=some (z2s n):=by
 have hK:=zg
 have hl:z9b k k n 0 (fun n_11=>some (decide ((List.length n_11.2.2.2:Int)≤24)))=if (List.range n.2.2.2.length).all (z8j n)=true then some (decide ((n.2.2.2.length:Int)≤24)) else some false:=by
  refine z4d (L:=fun m i=>z9b k m n i (fun n_11=>some (decide ((List.length n_11.2.2.2:Int)≤24)))) (b:=n.2.2.2.length) (p:=z8j n) (r:=some false) ?_ ?_ (n:=k) (by omega)
  ·intro m i hi
   have hlt:(i:Int)<(n.2.2.2.length:Int):=by omega
   have hw:=zd (i:=i) (by omega)
   have hg:n.2.2.2[i]?=some n.2.2.2[i]:=List.getElem?_eq_getElem hi
   simp only [z9b,hlt,decide_true,if_true,Int.natCast_nonneg,Int.toNat_natCast,hg,Option.bind_some,hw,z7e,z8j,zh7]
   generalize n.2.2.2[i]=a
   by_cases c1:0≤a.1∧a.1≤z6 (n.1-1)
   case neg=>simp [c1]
   by_cases c2:0≤a.2.1∧a.2.1≤z6 (n.1-1)
   case neg=>simp [c1,c2]
   by_cases c3:a.1=a.2.1
   ·simp only [c3,decide_true] at *; simp [c2]
   by_cases c4:0≤a.2.2∧a.2.2≤1000000
   case neg=>simp [c1,c2,c3,c4]
   rw [decide_eq_true c1,decide_eq_true c2,decide_eq_false c3,decide_eq_true c4]
   simp only [Bool.not_true,Bool.not_false,Bool.false_eq_true,if_false,Bool.true_and]
   by_cases h0:0<i
   ·have h0':(0:Int)<(i:Int):=by omega
    have hw1:z6 ((i:Int)-1)=((i-1:Nat):Int):=by rw [zf (by omega) (by omega)]; omega
    have hg1:n.2.2.2[i-1]?=some n.2.2.2[i-1]:=List.getElem?_eq_getElem (by omega)
    simp only [h0',h0,decide_true,if_true,hw1,Int.natCast_nonneg,Int.toNat_natCast,hg1,Option.bind_some]
    generalize n.2.2.2[i-1]=t
    unfold zdo
    by_cases d1:a.1<t.1
    ·have:¬ (t.1<a.1∨t.1=a.1∧t.2.1<a.2.1):=by omega
     rw [decide_eq_true d1,if_pos rfl,decide_eq_false this,if_neg (by simp)]
    ·rw [decide_eq_false d1,if_neg (by simp)]
     by_cases d2:t.1=a.1
     ·rw [decide_eq_true d2,if_pos rfl]
      by_cases d3:a.2.1≤t.2.1
      ·have:¬ (t.1<a.1∨t.1=a.1∧t.2.1<a.2.1):=by omega
       rw [decide_eq_true d3,if_pos rfl,decide_eq_false this,if_neg (by simp)]
      ·have:(t.1<a.1∨t.1=a.1∧t.2.1<a.2.1):=by omega
       rw [decide_eq_false d3,if_neg (by simp),decide_eq_true this,if_pos rfl]
     ·have:(t.1<a.1∨t.1=a.1∧t.2.1<a.2.1):=by omega
      rw [decide_eq_false d2,if_neg (by simp),decide_eq_true this,if_pos rfl]
   ·have h0':¬ (0:Int)<(i:Int):=by omega
    simp [h0,h0']
  ·intro m
   simp only [z9b,Int.lt_irrefl,decide_false,Bool.false_eq_true,if_false]
 have e2:decide ((n.2.2.2.length:Int)≤24)=decide (n.2.2.2.length≤24):=decide_eq_decide.2 (by omega)
 unfold znj z2s
 rw [hl,e2]
 simp only [z7e,Option.bind_some]
 by_cases c1:2≤n.1∧n.1≤12
 case neg=>simp [c1]
 by_cases c2:0≤n.2.1∧n.2.1≤z6 (n.1-1)
 case neg=>simp [c1,c2]
 by_cases c3:0≤n.2.2.1∧n.2.2.1≤z6 (n.1-1)
 case neg=>simp [c1,c2,c3]
 rw [decide_eq_true c1,decide_eq_true c2,decide_eq_true c3]
 cases decide (n.2.1=n.2.2.1) <;> cases (List.range n.2.2.2.length).all (z8j n) <;> simp
theorem z1qk {k:Nat} (hk:KK≤k) {n:Net} (hn:n.2.2.2.length≤1048576):zox k n=some (z2s n):=by
 have hK:=zg
 have e2:decide ((n.2.2.2.length:Int)≤24)=decide (n.2.2.2.length≤24):=decide_eq_decide.2 (by omega)
 have hE:((z47 n.1 2 12).bind fun r_11=>(if r_11=true then (z68 n.2.1 n.1).bind fun r_12=>(if r_12=true then (z68 n.2.2.1 n.1).bind fun r_13=>(if r_13=true then (if (!(decide (n.2.1=n.2.2.1)))=true then some (decide ((List.length n.2.2.2:Int)≤24)) else some false) else some false) else some false) else some false))=some (decide (2≤n.1∧n.1≤12)&&(decide (0≤n.2.1∧n.2.1≤z6 (n.1-1))&&(decide (0≤n.2.2.1∧n.2.2.1≤z6 (n.1-1))&&(!decide (n.2.1=n.2.2.1)&&decide (n.2.2.2.length≤24))))):=by
  unfold z68
  simp only [z6l,Option.bind_some,e2]
  by_cases c1:2≤n.1∧n.1≤12
  case neg=>simp [c1]
  by_cases c2:0≤n.2.1∧n.2.1≤z6 (n.1-1)
  case neg=>simp [c1,c2]
  by_cases c3:0≤n.2.2.1∧n.2.2.1≤z6 (n.1-1)
  case neg=>simp [c1,c2,c3]
  rw [decide_eq_true c1,decide_eq_true c2,decide_eq_true c3]
  cases decide (n.2.1=n.2.2.1) <;> simp
 unfold zox
 have hl:∀ E:Net→Option Bool,zb1 k k n.2.2.2 (n.2.2.2.length:Int) 0 n E=if (List.range n.2.2.2.length).all (z8j n)=true then E n else some false:=by
  intro E
  refine z4d (L:=fun m i=>zb1 k m n.2.2.2 (n.2.2.2.length:Int) i n E) (b:=n.2.2.2.length) (p:=z8j n) (r:=some false) ?_ ?_ (n:=k) (by omega)
  ·intro m i hi
   have hlt:(i:Int)<(n.2.2.2.length:Int):=by omega
   have hw:=zd (i:=i) (by omega)
   have hg:n.2.2.2[i]?=some n.2.2.2[i]:=List.getElem?_eq_getElem hi
   simp only [zb1,z68,hlt,decide_true,if_true,Int.natCast_nonneg,Int.toNat_natCast,hg,Option.bind_some,hw,z6l,z8j,zh7]
   generalize n.2.2.2[i]=a
   by_cases c1:0≤a.1∧a.1≤z6 (n.1-1)
   case neg=>simp [c1]
   by_cases c2:0≤a.2.1∧a.2.1≤z6 (n.1-1)
   case neg=>simp [c1,c2]
   by_cases c3:a.1=a.2.1
   ·simp only [c3,decide_true] at *; simp [c2]
   by_cases c4:0≤a.2.2∧a.2.2≤1000000
   case neg=>simp [c1,c2,c3,c4]
   rw [decide_eq_true c1,decide_eq_true c2,decide_eq_false c3,decide_eq_true c4]
   simp only [Bool.not_true,Bool.not_false,Bool.false_eq_true,if_false,Bool.true_and]
   by_cases h0:0<i
   ·have h0':(0:Int)<(i:Int):=by omega
    have hw1:z6 ((i:Int)-1)=((i-1:Nat):Int):=by rw [zf (by omega) (by omega)]; omega
    have hg1:n.2.2.2[i-1]?=some n.2.2.2[i-1]:=List.getElem?_eq_getElem (by omega)
    simp only [h0',h0,decide_true,if_true,hw1,Int.natCast_nonneg,Int.toNat_natCast,hg1,Option.bind_some,ztt,ztu hk,z18j]
    generalize n.2.2.2[i-1]=t
    cases zdo t a <;> simp
   ·have h0':¬ (0:Int)<(i:Int):=by omega
    simp [h0,h0']
  ·intro m
   simp only [zb1,Int.lt_irrefl,decide_false,Bool.false_eq_true,if_false]
 rw [hl,hE]
 unfold z2s
 cases (List.range n.2.2.2.length).all (z8j n) <;> simp
def z1h {α:Type} (f:α→Nat) (l:List α):Nat:=(l.map f).sum
theorem zq7 {α:Type} (f:α→Nat):z1h f []=0:=rfl
theorem zdp {α:Type} (f:α→Nat) (x:α) (l:List α):z1h f (x::l)=f x+z1h f l:=by simp [z1h]
theorem z1ql {α:Type} (f:α→Nat) (l m:List α):z1h f (l++m)=z1h f l+z1h f m:=by simp [z1h]
theorem zh8 {α:Type} (f:α→Nat) {x:α} {l:List α} (h:x∈l):f x≤z1h f l:=by
 induction l with
 | nil=>cases h
 | cons y l ih =>
  rw [zdp]
  rcases List.mem_cons.1 h with rfl | h
  ·omega
  ·have:=ih h; omega
theorem z18k {α:Type} (xs:List α) {s:α→Nat} {L:Nat→Int→Int→Option Int}
  (h1:∀ n (i:Nat) x r,xs[i]?=some x→(i:Int)<xs.length→x∈xs→0≤r→r≤1048576→L (n+1) (i:Int) r=if (s x:Int)≤r then L n ((i+1:Nat):Int) (r-(s x:Int)) else some (-1))
  (h2:∀ n r,L (n+1) (xs.length:Int) r=some r) {n:Nat} (hn:xs.length<n) {r:Int} (h0:0≤r) (hr:r≤1048576):L n 0 r=some (if (z1h s xs:Int)≤r then r-(z1h s xs:Int) else -1):=by
 refine z29 (L:=L) (I:=fun _ r=>0≤r∧r≤1048576) (G:=fun post r=>some (if (z1h s post:Int)≤r then r-(z1h s post:Int) else -1)) xs ?_ ?_ n hn r ⟨h0,hr⟩
 ·intro n pre x post r hx hI ih hg hlt
  rw [h1 n pre.length x r hg hlt (List.mem_of_getElem? hg) hI.1 hI.2]
  have hc:z1h s (x::post)=s x+z1h s post:=zdp _ _ _
  by_cases c:(s x:Int)≤r
  ·rw [if_pos c,ih (r-(s x:Int)) ⟨by omega,by omega⟩]
   by_cases c2:(z1h s post:Int)≤r-(s x:Int)
   ·rw [if_pos c2,if_pos (by omega)]; congr 1; omega
   ·rw [if_neg c2,if_neg (by omega)]
  ·rw [if_neg c,if_neg (by omega)]
 ·intro n r hI
  rw [h2,zq7,if_pos (by simpa using hI.1)]; simp
abbrev Prb:=Int×List UInt8×List UInt8
theorem z1s {S R:Type} {L:Nat→Int→S→R} {b:Nat} {st:Nat→S} {e:R} (h1:∀ n (i:Nat),i<b→L (n+1) (i:Int) (st i)=L n ((i+1:Nat):Int) (st (i+1))) (h2:∀ n,L (n+1) (b:Int) (st b)=e):∀ {n:Nat},b<n→L n 0 (st 0)=e:=by
 have key:∀ (d i n:Nat),i+d=b→d<n→L n (i:Int) (st i)=e:=by
  intro d
  induction d with
  | zero =>
   intro i n hi hn
   obtain ⟨n,rfl⟩:∃ m,n=m+1:=⟨n-1,by omega⟩
   have:i=b:=by omega
   subst this
   exact h2 n
  | succ d ih =>
   intro i n hi hn
   obtain ⟨n,rfl⟩:∃ m,n=m+1:=⟨n-1,by omega⟩
   rw [h1 n i (by omega)]
   exact ih (i+1) n (by omega) (by omega)
 intro n hn
 exact key b 0 n (by omega) hn
def z9u (v:Int) (a:Option Edg) (x:Option Int):Int:=match a,x with
 | some a,some x=>(if a.2.1=v then x else 0)-(if a.1=v then x else 0)
 | _,_=>0
theorem zub (v:Int) (a:Edg) (x:Int):z9u v (some a) (some x)=(if a.2.1=v then x else 0)-(if a.1=v then x else 0):=rfl
def z17 (A:List Edg) (f:List Int) (v:Int):Nat→Int
 | 0=>0
 | i+1=>z17 A f v i+z9u v A[i]? f[i]?
theorem zjq {A:List Edg} {f:List Int} (hf:∀ x∈f,0≤x∧x≤1000000) (v:Int):∀ i:Nat,-(i:Int)*1000000≤z17 A f v i∧z17 A f v i≤(i:Int)*1000000
 | 0=>by simp [z17]
 | i+1=>by
  have ih:=zjq (A:=A) hf v i
  have hd : -1000000≤z9u v A[i]? f[i]?∧z9u v A[i]? f[i]?≤1000000:=by
   cases A[i]? with
   | none=>exact ⟨by simp [z9u],by simp [z9u]⟩
   | some a =>
    cases hx:f[i]? with
    | none=>exact ⟨by simp [z9u],by simp [z9u]⟩
    | some x =>
     have hb:=hf x (List.mem_of_getElem? hx)
     rw [zub]
     split <;> split <;> omega
  have e:z17 A f v (i+1)=z17 A f v i+z9u v A[i]? f[i]?:=rfl
  rw [e]
  omega
def z7j (n:Net) (f:List Int) (i:Nat):Bool:=match n.2.2.2[i]?,f[i]? with | some a,some x=>decide (0≤x∧x≤a.2.2) | _,_=>false
def z8k (n:Net) (f:List Int):Bool:=decide (f.length=n.2.2.2.length)&&((List.range n.2.2.2.length).all (z7j n f)&&(List.range n.1.toNat).all fun j=>decide ((j:Int)=n.2.1)||(decide ((j:Int)=n.2.2.1)||decide (z17 n.2.2.2 f (j:Int) n.2.2.2.length=0)))
theorem z6r {n:Net} (h:z2s n=true):(2≤n.1∧n.1≤12)∧(0≤n.2.1∧n.2.1≤n.1-1)∧(0≤n.2.2.1∧n.2.2.1≤n.1-1)∧n.2.2.2.length≤24∧∀ (i:Nat) a,n.2.2.2[i]?=some a→(0≤a.1∧a.1≤n.1-1)∧(0≤a.2.1∧a.2.1≤n.1-1)∧a.2.2≤1000000∧0≤a.2.2:=by
 unfold z2s at h
 simp only [Bool.and_eq_true,decide_eq_true_eq,List.all_eq_true] at h
 obtain ⟨h1,h2,h3,h4,h5,h6⟩:=h
 have hw:z6 (n.1-1)=n.1-1:=zf (by omega) (by omega)
 rw [hw] at h2 h3
 refine ⟨h1,h2,h3,h6,fun i a ha=>?_⟩
 have:=h5 i (List.mem_range.2 (List.getElem?_eq_some_iff.1 ha).1)
 unfold z8j at this
 rw [ha] at this
 simp only [Bool.and_eq_true,decide_eq_true_eq] at this
 rw [hw] at this
 exact ⟨this.1,this.2.1,this.2.2.2.1.2,this.2.2.2.1.1⟩
theorem z18l {k:Nat} (hk:KK≤k) {n:Net} {f:List Int} (hn:n.2.2.2.length≤24) (hl:f.length=n.2.2.2.length) (hf:∀ x∈f,0≤x∧x≤1000000) (v:Int):zj4 k n f v=some (z17 n.2.2.2 f v n.2.2.2.length):=by
 have hK:=zg
 unfold zj4
 refine z1s (S:=Int) (L:=fun m i s=>z9g k m n f v s i (fun sum_7=>some sum_7)) (b:=n.2.2.2.length) (st:=z17 n.2.2.2 f v) ?_ ?_ (n:=k) (by omega)
 ·intro m i hi
  have hlt:(i:Int)<(n.2.2.2.length:Int):=by omega
  have hw:=zd (i:=i) (by omega)
  have hg:n.2.2.2[i]?=some n.2.2.2[i]:=List.getElem?_eq_getElem hi
  have hgf:f[i]?=some f[i]:=List.getElem?_eq_getElem (by omega)
  have hb:=hf f[i] (List.getElem_mem (by omega))
  have ih:=zjq (A:=n.2.2.2) hf v i
  simp only [z9g,hlt,decide_true,if_true,Int.natCast_nonneg,Int.toNat_natCast,hg,hgf,Option.bind_some,hw,z17,zub]
  generalize n.2.2.2[i]=a at *
  generalize f[i]=x at *
  generalize z17 n.2.2.2 f v i=s at *
  by_cases c1:a.2.1=v <;> by_cases c2:a.1=v
  ·simp only [c1,c2,decide_true,if_true]
   rw [show z6 (s+x)=s+x from zf (by omega) (by omega),show z6 (s+x-x)=s+x-x from zf (by omega) (by omega)]
   congr 1; omega
  ·simp only [c1,c2,decide_true,decide_false,if_true,if_false,Bool.false_eq_true]
   rw [show z6 (s+x)=s+x from zf (by omega) (by omega)]
   congr 1; omega
  ·simp only [c1,c2,decide_true,decide_false,if_true,if_false,Bool.false_eq_true]
   rw [show z6 (s-x)=s-x from zf (by omega) (by omega)]
   congr 1; omega
  ·simp only [c1,c2,decide_false,if_false,Bool.false_eq_true]
   congr 1; omega
 ·intro m
  simp only [z9g,Int.lt_irrefl,decide_false,Bool.false_eq_true,if_false]
def z2b (n:Net) (f:List Int) (i:Nat):List Int:=(List.range n.1.toNat).map fun (j:Nat)=>z17 n.2.2.2 f (j:Int) i
theorem zq8 {n:Net} {f:List Int} {i:Nat} {v:Int} (h0:0≤v) (h1:v≤n.1-1):(z2b n f i)[v.toNat]?=some (z17 n.2.2.2 f v i):=by
 have:v.toNat<n.1.toNat:=by omega
 unfold z2b
 rw [List.getElem?_map,List.getElem?_range this,Option.map_some,Int.toNat_of_nonneg h0]
theorem z1qm {n:Net} {f:List Int} {i:Nat} {a:Edg} {x:Int} (ha:n.2.2.2[i]?=some a) (hx:f[i]?=some x) (h1:0≤a.1∧a.1≤n.1-1) (h2:0≤a.2.1∧a.2.1≤n.1-1) :
  (((z2b n f i).set a.2.1.toNat (z17 n.2.2.2 f a.2.1 i+x)).set a.1.toNat ((if a.2.1=a.1 then z17 n.2.2.2 f a.1 i+x else z17 n.2.2.2 f a.1 i)-x))=z2b n f (i+1):=by
 apply List.ext_getElem?
 intro j
 have hlen:(z2b n f i).length=n.1.toNat:=by simp [z2b]
 rw [List.getElem?_set,List.getElem?_set,List.length_set,hlen]
 unfold z2b
 rw [List.getElem?_map,List.getElem?_map]
 by_cases hj:j<n.1.toNat
 ·rw [List.getElem?_range hj,Option.map_some,Option.map_some]
  have e1:(a.1.toNat=j)↔a.1=(j:Int):=by omega
  have e2:(a.2.1.toNat=j)↔a.2.1=(j:Int):=by omega
  simp only [z17,zub,ha,hx,e1,e2,show a.1.toNat<n.1.toNat by omega,show a.2.1.toNat<n.1.toNat by omega,if_true]
  by_cases c1:a.1=(j:Int) <;> by_cases c2:a.2.1=(j:Int)
  ·rw [if_pos c1,if_pos c2,if_pos c1,if_pos (c2.trans c1.symm),c1]
   congr 1; omega
  ·rw [if_pos c1,if_neg c2,if_pos c1,if_neg (fun e=>c2 (e.trans c1)),c1]
   congr 1; omega
  ·rw [if_neg c1,if_pos c2,if_pos c2,if_neg c1,c2]
   congr 1; omega
  ·rw [if_neg c1,if_neg c2,if_neg c2,if_neg c1]
   congr 1; omega
 ·have hn:(List.range n.1.toNat)[j]?=none:=List.getElem?_eq_none (by simp; omega)
  rw [hn,Option.map_none,Option.map_none,if_neg (by omega),if_neg (by omega)]
theorem z18m {k:Nat} (hk:KK≤k) {n:Net} {f:List Int} (h:z2s n=true) (hl:f.length=n.2.2.2.length) (hf:∀ x∈f,0≤x∧x≤1000000):zit k n f=some (z2b n f n.2.2.2.length):=by
 have hK:=zg
 obtain ⟨p1,p2,p3,p4,p5⟩:=z6r h
 have h0:z2b n f 0=List.replicate n.1.toNat 0:=by
  unfold z2b
  simp only [z17]
  apply List.ext_getElem?
  intro j
  by_cases hj:j<n.1.toNat
  ·simp [hj]
  ·simp [hj]
 unfold zit
 rw [if_pos ⟨by omega,by omega,by unfold LIM; omega⟩,← h0]
 refine z1s (S:=List Int) (L:=fun m i s=>zfh k m f n.2.2.2 (n.2.2.2.length:Int) i s (fun q_11=>some q_11)) (b:=n.2.2.2.length) (st:=z2b n f) ?_ ?_ (n:=k) (by omega)
 ·intro m i hi
  have hlt:(i:Int)<(n.2.2.2.length:Int):=by omega
  have hw:=zd (i:=i) (by omega)
  have hg:n.2.2.2[i]?=some n.2.2.2[i]:=List.getElem?_eq_getElem hi
  have hgf:f[i]?=some f[i]:=List.getElem?_eq_getElem (by omega)
  have hb:=hf f[i] (List.getElem_mem (by omega))
  obtain ⟨q1,q2,q3,q4⟩:=p5 i _ hg
  have st:=z1qm (f:=f) hg hgf q1 q2
  have hlen:(z2b n f i).length=n.1.toNat:=by simp [z2b]
  generalize n.2.2.2[i]=a at *
  generalize f[i]=x at *
  have i1:=zjq (A:=n.2.2.2) hf a.1 i
  have i2:=zjq (A:=n.2.2.2) hf a.2.1 i
  have g1:(z2b n f i)[a.2.1.toNat]?=some (z17 n.2.2.2 f a.2.1 i):=zq8 q2.1 q2.2
  have g2:(z2b n f i)[a.1.toNat]?=some (z17 n.2.2.2 f a.1 i):=zq8 q1.1 q1.2
  have w1:z6 (z17 n.2.2.2 f a.2.1 i+x)=z17 n.2.2.2 f a.2.1 i+x:=zf (by omega) (by omega)
  have g3:((z2b n f i).set a.2.1.toNat (z17 n.2.2.2 f a.2.1 i+x))[a.1.toNat]?=some (if a.2.1=a.1 then z17 n.2.2.2 f a.1 i+x else z17 n.2.2.2 f a.1 i):=by
   rw [List.getElem?_set]
   by_cases e:a.2.1=a.1
   ·rw [if_pos (by rw [e]),if_pos (by rw [hlen]; omega),if_pos e,e]
   ·rw [if_neg (by omega),g2,if_neg e]
  have w2:z6 ((if a.2.1=a.1 then z17 n.2.2.2 f a.1 i+x else z17 n.2.2.2 f a.1 i)-x)=(if a.2.1=a.1 then z17 n.2.2.2 f a.1 i+x else z17 n.2.2.2 f a.1 i)-x:=by
   split <;> exact zf (by omega) (by omega)
  have c1:0≤a.2.1∧a.2.1.toNat<(z2b n f i).length:=⟨q2.1,by rw [hlen]; omega⟩
  have c2:0≤a.1∧a.1.toNat<((z2b n f i).set a.2.1.toNat (z17 n.2.2.2 f a.2.1 i+x)).length:=⟨q1.1,by rw [List.length_set,hlen]; omega⟩
  simp only [zfh,hlt,decide_true,if_true,Int.natCast_nonneg,Int.toNat_natCast,hg,hgf,Option.bind_some,hw,g1,w1,c1.1,c1.2,c2.1,c2.2,and_self,g3,w2,st]
 ·intro m
  simp only [zfh,Int.lt_irrefl,decide_false,Bool.false_eq_true,if_false]
theorem zuc {n:Net} {f:List Int} (h:z2s n=true) (hl:f.length=n.2.2.2.length) (hc:(List.range n.2.2.2.length).all (z7j n f)=true):∀ x∈f,0≤x∧x≤1000000:=by
 obtain ⟨_,_,_,_,p5⟩:=z6r h
 intro x hx
 obtain ⟨i,hi⟩:=List.getElem?_of_mem hx
 have hlt:=(List.getElem?_eq_some_iff.1 hi).1
 have:=List.all_eq_true.1 hc i (List.mem_range.2 (by omega))
 unfold z7j at this
 have hg:n.2.2.2[i]?=some n.2.2.2[i]:=List.getElem?_eq_getElem (by omega)
 rw [hg,hi] at this
 have h2:=(p5 i _ hg).2.2.1
 simp only [decide_eq_true_eq] at this
 omega
theorem z1qn {k:Nat} (hk:KK≤k) {n:Net} {f:List Int} (h:z2s n=true) (hfl:f.length≤1048576):zoa k n f=some (z8k n f):=by
 have hK:=zg
 obtain ⟨p1,p2,p3,p4,p5⟩:=z6r h
 unfold zoa z8k
 by_cases hl:f.length=n.2.2.2.length
 case neg =>
  have:¬ (f.length:Int)=(n.2.2.2.length:Int):=by omega
  rw [decide_eq_false this,decide_eq_false hl]; simp
 rw [decide_eq_true (by omega:(f.length:Int)=(n.2.2.2.length:Int)),decide_eq_true hl]
 simp only [Bool.not_true,Bool.false_eq_true,if_false,Bool.true_and]
 have hl0:zcw k k n f 0 (fun n_4 flow_5=>z6k k k n_4 flow_5 0 (some true))=if (List.range n.2.2.2.length).all (z7j n f)=true then z6k k k n f 0 (some true) else some false:=by
  refine z4d (L:=fun m i=>zcw k m n f i (fun n_4 flow_5=>z6k k k n_4 flow_5 0 (some true))) (b:=n.2.2.2.length) (p:=z7j n f) (r:=some false) ?_ ?_ (n:=k) (by omega)
  ·intro m i hi
   have hlt:(i:Int)<(f.length:Int):=by omega
   have hw:=zd (i:=i) (by omega)
   have hg:n.2.2.2[i]?=some n.2.2.2[i]:=List.getElem?_eq_getElem hi
   have hgf:f[i]?=some f[i]:=List.getElem?_eq_getElem (by omega)
   simp only [zcw,hlt,decide_true,if_true,Int.natCast_nonneg,Int.toNat_natCast,hg,hgf,Option.bind_some,hw,z7e,z7j]
   cases decide (0≤f[i]∧f[i]≤(n.2.2.2[i]).2.2) <;> simp
  ·intro m
   have:¬ (n.2.2.2.length:Int)<(f.length:Int):=by omega
   simp only [zcw,this,decide_false,Bool.false_eq_true,if_false]
 rw [hl0]
 cases hc:(List.range n.2.2.2.length).all (z7j n f)
 ·simp
 have hf:=zuc h hl hc
 simp only [if_true,Bool.true_and]
 have hN:(n.1.toNat:Int)=n.1:=Int.toNat_of_nonneg (by omega)
 have hl1:z6k k k n f 0 (some true)=if (List.range n.1.toNat).all (fun j=>decide ((j:Int)=n.2.1)||(decide ((j:Int)=n.2.2.1)||decide (z17 n.2.2.2 f (j:Int) n.2.2.2.length=0)))=true then some true else some false:=by
  refine z4d (L:=fun m i=>z6k k m n f i (some true)) (b:=n.1.toNat) (r:=some false) ?_ ?_ (n:=k) (by omega)
  ·intro m i hi
   have hlt:(i:Int)<n.1:=by omega
   have hw:=zd (i:=i) (by omega)
   simp only [z6k,hlt,decide_true,if_true,z18l hk p4 hl hf,Option.bind_some,hw]
   cases decide ((i:Int)=n.2.1) <;> cases decide ((i:Int)=n.2.2.1) <;> cases decide (z17 n.2.2.2 f (i:Int) n.2.2.2.length=0) <;> simp
  ·intro m
   have:¬ (n.1.toNat:Int)<n.1:=by omega
   simp only [z6k,this,decide_false,Bool.false_eq_true,if_false]
 rw [hl1]
 cases (List.range n.1.toNat).all (fun j=>decide ((j:Int)=n.2.1)||(decide ((j:Int)=n.2.2.1)||decide (z17 n.2.2.2 f (j:Int) n.2.2.2.length=0))) <;> simp
theorem z1qo {k:Nat} (hk:KK≤k) {n:Net} {f:List Int} (h:z2s n=true) (hfl:f.length≤1048576):zmt k n f=some (z8k n f):=by
 have hK:=zg
 obtain ⟨p1,p2,p3,p4,p5⟩:=z6r h
 unfold zmt z8k
 by_cases hl:f.length=n.2.2.2.length
 case neg =>
  have:¬ (f.length:Int)=(n.2.2.2.length:Int):=by omega
  rw [decide_eq_false this,decide_eq_false hl]; simp
 rw [decide_eq_true (by omega:(f.length:Int)=(n.2.2.2.length:Int)),decide_eq_true hl]
 simp only [Bool.not_true,Bool.false_eq_true,if_false,Bool.true_and]
 have hl0:∀ E:List Int→Net→Option Bool,zcb k k f n.2.2.2 (n.2.2.2.length:Int) 0 n E=if (List.range n.2.2.2.length).all (z7j n f)=true then E f n else some false:=by
  intro E
  refine z4d (L:=fun m i=>zcb k m f n.2.2.2 (n.2.2.2.length:Int) i n E) (b:=n.2.2.2.length) (p:=z7j n f) (r:=some false) ?_ ?_ (n:=k) (by omega)
  ·intro m i hi
   have hlt:(i:Int)<(n.2.2.2.length:Int):=by omega
   have hw:=zd (i:=i) (by omega)
   have hg:n.2.2.2[i]?=some n.2.2.2[i]:=List.getElem?_eq_getElem hi
   have hgf:f[i]?=some f[i]:=List.getElem?_eq_getElem (by omega)
   simp only [zcb,hlt,decide_true,if_true,Int.natCast_nonneg,Int.toNat_natCast,hg,hgf,Option.bind_some,hw,z6l,z7j]
   cases decide (0≤f[i]∧f[i]≤(n.2.2.2[i]).2.2) <;> simp
  ·intro m
   simp only [zcb,Int.lt_irrefl,decide_false,Bool.false_eq_true,if_false]
 rw [hl0]
 cases hc:(List.range n.2.2.2.length).all (z7j n f)
 ·simp
 have hf:=zuc h hl hc
 simp only [if_true,Bool.true_and,z18m hk h hl hf,Option.bind_some]
 have hlen:(z2b n f n.2.2.2.length).length=n.1.toNat:=by simp [z2b]
 rw [hlen]
 have hl1:z9a k k (n.1.toNat:Int) 0 (z2b n f n.2.2.2.length) n (some true)=if (List.range n.1.toNat).all (fun j=>decide ((j:Int)=n.2.1)||(decide ((j:Int)=n.2.2.1)||decide (z17 n.2.2.2 f (j:Int) n.2.2.2.length=0)))=true then some true else some false:=by
  refine z4d (L:=fun m i=>z9a k m (n.1.toNat:Int) i (z2b n f n.2.2.2.length) n (some true)) (b:=n.1.toNat) (r:=some false) ?_ ?_ (n:=k) (by omega)
  ·intro m i hi
   have hlt:(i:Int)<(n.1.toNat:Int):=by omega
   have hw:=zd (i:=i) (by omega)
   have hg:(z2b n f n.2.2.2.length)[i]?=some (z17 n.2.2.2 f (i:Int) n.2.2.2.length):=by
    have:=zq8 (n:=n) (f:=f) (i:=n.2.2.2.length) (v:=(i:Int)) (by omega) (by omega)
    simpa using this
   have hin:i<(z2b n f n.2.2.2.length).length:=by rw [hlen]; exact hi
   simp only [z9a,hlt,decide_true,if_true,Int.natCast_nonneg,Int.toNat_natCast,hin,and_self,hg,Option.bind_some,hw]
   cases decide ((i:Int)=n.2.1) <;> cases decide ((i:Int)=n.2.2.1) <;> cases decide (z17 n.2.2.2 f (i:Int) n.2.2.2.length=0) <;> simp
  ·intro m
   simp only [z9a,Int.lt_irrefl,decide_false,Bool.false_eq_true,if_false]
 rw [hl1]
 cases (List.range n.1.toNat).all (fun j=>decide ((j:Int)=n.2.1)||(decide ((j:Int)=n.2.2.1)||decide (z17 n.2.2.2 f (j:Int) n.2.2.2.length=0))) <;> simp
def zdq (n:Net) (s:List Int):Bool:=decide ((∀ x∈s,0≤x∧x≤n.1-1)∧s.Pairwise (fun a b:Int=>a<b))&&(s.contains n.2.1&&!s.contains n.2.2.1)
theorem z1qp {k:Nat} (hk:KK≤k) {n:Net} {s:List Int} (h:z2s n=true) (hs:s.length≤1048576):zob k n s=some (zdq n s):=by
 obtain ⟨p1,_⟩:=z6r h
 have hw:z6 (n.1-1)=n.1-1:=zf (by omega) (by omega)
 unfold zob zdq
 rw [hw,z17i hk (by omega)]
 simp only [Option.bind_some,z18a hk (show s.length≤1000000000 by omega)]
 cases decide ((∀ x∈s,0≤x∧x≤n.1-1)∧s.Pairwise (fun a b:Int=>a<b)) <;> cases s.contains n.2.1 <;> simp
theorem z1qq {k:Nat} (hk:KK≤k) {n:Net} {s:List Int} (h:z2s n=true) (hs:s.length≤1048576):zmu k n s=some (zdq n s):=by
 obtain ⟨p1,_⟩:=z6r h
 have e:decide ((∀ x∈s,0≤x∧x≤n.1-1)∧s.Pairwise (fun a b:Int=>a<b))=(decide (s.Pairwise (fun a b:Int=>a<b))&&s.all (fun x=>decide (0≤x∧x≤n.1-1))):=by
  rw [Bool.eq_iff_iff]
  simp only [decide_eq_true_eq,Bool.and_eq_true,List.all_eq_true]
  exact ⟨fun h=>⟨h.2,h.1⟩,fun h=>⟨h.2,h.1⟩⟩
 unfold zmu zdq
 rw [z17j hk (by omega),e]
 simp only [Option.bind_some,ztn hk hs (show -1000000≤n.1∧n.1≤1000000 by omega),z18b hk (show s.length≤1000000000 by omega)]
 cases decide (s.Pairwise (fun a b:Int=>a<b)) <;> cases s.all (fun x=>decide (0≤x∧x≤n.1-1)) <;> cases s.contains n.2.1 <;> simp
def z3d (A:List Edg) (s:List Int):Nat→Int
 | 0=>0
 | i+1=>z3d A s i+(match A[i]? with | some a=>(if (s.contains a.1&&!s.contains a.2.1)=true then a.2.2 else 0) | none=>0)
theorem zq9 {n:Net} (h:z2s n=true) (s:List Int):∀ i:Nat,0≤z3d n.2.2.2 s i∧z3d n.2.2.2 s i≤(i:Int)*1000000
 | 0=>by simp [z3d]
 | i+1=>by
  have ih:=zq9 h s i
  obtain ⟨_,_,_,_,p5⟩:=z6r h
  simp only [z3d]
  split
  ·rename_i a ha
   have:=p5 i a ha
   split <;> omega
  ·omega
theorem z1qr {k:Nat} (hk:KK≤k) {n:Net} {s:List Int} (h:z2s n=true) (hs:s.length≤1048576):zoc k n s=some (z3d n.2.2.2 s n.2.2.2.length):=by
 have hK:=zg
 obtain ⟨p1,p2,p3,p4,p5⟩:=z6r h
 unfold zoc
 refine z1s (S:=Int) (L:=fun m i c=>zax k m n s c i (fun sum_6=>some sum_6)) (b:=n.2.2.2.length) (st:=z3d n.2.2.2 s) ?_ ?_ (n:=k) (by omega)
 ·intro m i hi
  have hlt:(i:Int)<(n.2.2.2.length:Int):=by omega
  have hw:=zd (i:=i) (by omega)
  have hg:n.2.2.2[i]?=some n.2.2.2[i]:=List.getElem?_eq_getElem hi
  have hb:=p5 i _ hg
  have ih:=zq9 h s i
  simp only [zax,hlt,decide_true,if_true,Int.natCast_nonneg,Int.toNat_natCast,hg,Option.bind_some,hw,z18a hk (show s.length≤1000000000 by omega),z3d]
  generalize n.2.2.2[i]=a at *
  generalize z3d n.2.2.2 s i=c at *
  have w1:z6 (c+a.2.2)=c+a.2.2:=zf (by omega) (by omega)
  cases s.contains a.1 <;> cases s.contains a.2.1 <;> simp [w1]
 ·intro m
  simp only [zax,Int.lt_irrefl,decide_false,Bool.false_eq_true,if_false]
theorem z1qs {k:Nat} (hk:KK≤k) {n:Net} {s:List Int} (h:z2s n=true) (hs:s.length≤1048576):zmv k n s=some (z3d n.2.2.2 s n.2.2.2.length):=by
 have hK:=zg
 obtain ⟨p1,p2,p3,p4,p5⟩:=z6r h
 unfold zmv
 refine z1s (S:=Int) (L:=fun m i c=>zas k m s c n.2.2.2 (n.2.2.2.length:Int) i (fun sum_4=>some sum_4)) (b:=n.2.2.2.length) (st:=z3d n.2.2.2 s) ?_ ?_ (n:=k) (by omega)
 ·intro m i hi
  have hlt:(i:Int)<(n.2.2.2.length:Int):=by omega
  have hw:=zd (i:=i) (by omega)
  have hg:n.2.2.2[i]?=some n.2.2.2[i]:=List.getElem?_eq_getElem hi
  have hb:=p5 i _ hg
  have ih:=zq9 h s i
  simp only [zas,hlt,decide_true,if_true,Int.natCast_nonneg,Int.toNat_natCast,hg,Option.bind_some,hw,z18b hk (show s.length≤1000000000 by omega),z3d]
  generalize n.2.2.2[i]=a at *
  generalize z3d n.2.2.2 s i=c at *
  have w1:z6 (c+a.2.2)=c+a.2.2:=zf (by omega) (by omega)
  cases s.contains a.1 <;> cases s.contains a.2.1 <;> simp [w1]
 ·intro m
  simp only [zas,Int.lt_irrefl,decide_false,Bool.false_eq_true,if_false]
noncomputable def z9v (n:Net) (f s:List Int):List Prb :=
 if z8k n f=true then (if zdq n s=true then (if z3d n.2.2.2 s n.2.2.2.length-z17 n.2.2.2 f n.2.2.1 n.2.2.2.length=0 then [] else [(4,([114,101,115,116],Lib.itoa (z3d n.2.2.2 s n.2.2.2.length-z17 n.2.2.2 f n.2.2.1 n.2.2.2.length)))]) else [(4,([115,105,100,101],[110,111,110,101]))]) else [(4,([102,108,111,119],[110,111,110,101]))]
theorem zud {n:Net} {f:List Int} (h:z2s n=true) (hb:z8k n f=true):f.length=n.2.2.2.length∧∀ x∈f,0≤x∧x≤1000000:=by
 unfold z8k at hb
 simp only [Bool.and_eq_true,decide_eq_true_eq] at hb
 exact ⟨hb.1,zuc h hb.1 hb.2.1⟩
theorem zue {n:Net} {f s:List Int} (h:z2s n=true) (hb:z8k n f=true):z6 (z3d n.2.2.2 s n.2.2.2.length-z17 n.2.2.2 f n.2.2.1 n.2.2.2.length)=z3d n.2.2.2 s n.2.2.2.length-z17 n.2.2.2 f n.2.2.1 n.2.2.2.length ∧ -9223372036854775808≤z3d n.2.2.2 s n.2.2.2.length-z17 n.2.2.2 f n.2.2.1 n.2.2.2.length∧z3d n.2.2.2 s n.2.2.2.length-z17 n.2.2.2 f n.2.2.1 n.2.2.2.length≤9223372036854775807:=by
 obtain ⟨h1,h2⟩:=zud h hb
 obtain ⟨_,_,_,p4,_⟩:=z6r h
 have b1:=zq9 h s n.2.2.2.length
 have b2:=zjq (A:=n.2.2.2) h2 n.2.2.1 n.2.2.2.length
 have:(n.2.2.2.length:Int)*1000000≤24*1000000:=by omega
 exact ⟨zf (by omega) (by omega),by omega,by omega⟩
theorem z1qt {k:Nat} (hk:KK≤k) {w:She×Int×List Int×List Int×Net×List Int×List Int×(Int×Int×List Edg)×List Int} (h:z2s w.2.2.2.2.1=true) (h1:w.2.2.2.2.2.1.length≤1048576) (h2:w.2.2.2.2.2.2.1.length≤1048576):zod k w=some (z9v w.2.2.2.2.1 w.2.2.2.2.2.1 w.2.2.2.2.2.2.1):=by
 obtain ⟨_,_,p3,p4,_⟩:=z6r h
 unfold zod z9v
 rw [z1qn hk h h1]
 cases hb:z8k w.2.2.2.2.1 w.2.2.2.2.2.1
 ·simp
 obtain ⟨q1,q2⟩:=zud h hb
 obtain ⟨r1,r2,r3⟩:=zue (s:=w.2.2.2.2.2.2.1) h hb
 simp only [Option.bind_some,Bool.not_true,Bool.false_eq_true,if_false,if_true,z1qp hk h h2]
 cases hc:zdq w.2.2.2.2.1 w.2.2.2.2.2.2.1
 ·simp
 simp only [Bool.not_true,Bool.false_eq_true,if_false,if_true,z1qr hk h h2,z18l hk p4 q1 q2,Option.bind_some,r1]
 by_cases h0:z3d w.2.2.2.2.1.2.2.2 w.2.2.2.2.2.2.1 w.2.2.2.2.1.2.2.2.length-z17 w.2.2.2.2.1.2.2.2 w.2.2.2.2.2.1 w.2.2.2.2.1.2.2.1 w.2.2.2.2.1.2.2.2.length=0
 ·rw [decide_eq_true h0]; simp [h0]
 ·rw [decide_eq_false h0,z18e hk r2 r3]; simp [h0]
theorem z1qu {k:Nat} (hk:KK≤k) {w:She×Int×List Int×List Int×Net×List Int×List Int×(Int×Int×List Edg)×List Int} (h:z2s w.2.2.2.2.1=true) (h1:w.2.2.2.2.2.1.length≤1048576) (h2:w.2.2.2.2.2.2.1.length≤1048576):ziv k w=some (z9v w.2.2.2.2.1 w.2.2.2.2.2.1 w.2.2.2.2.2.2.1):=by
 obtain ⟨_,_,p3,p4,_⟩:=z6r h
 unfold ziv z9v
 rw [z1qo hk h h1]
 cases hb:z8k w.2.2.2.2.1 w.2.2.2.2.2.1
 ·simp
 obtain ⟨q1,q2⟩:=zud h hb
 obtain ⟨r1,r2,r3⟩:=zue (s:=w.2.2.2.2.2.2.1) h hb
 simp only [Option.bind_some,Bool.not_true,Bool.false_eq_true,if_false,if_true,z1qq hk h h2]
 cases hc:zdq w.2.2.2.2.1 w.2.2.2.2.2.2.1
 ·simp
 have hlen:(z2b w.2.2.2.2.1 w.2.2.2.2.2.1 w.2.2.2.2.1.2.2.2.length).length=w.2.2.2.2.1.1.toNat:=by simp [z2b]
 have hg:=zq8 (n:=w.2.2.2.2.1) (f:=w.2.2.2.2.2.1) (i:=w.2.2.2.2.1.2.2.2.length) p3.1 p3.2
 have hin:0≤w.2.2.2.2.1.2.2.1∧w.2.2.2.2.1.2.2.1.toNat<(z2b w.2.2.2.2.1 w.2.2.2.2.2.1 w.2.2.2.2.1.2.2.2.length).length:=⟨p3.1,by rw [hlen]; omega⟩
 simp only [Bool.not_true,Bool.false_eq_true,if_false,if_true,z1qs hk h h2,z18m hk h q1 q2,Option.bind_some]
 rw [if_pos hin]
 simp only [hg,Option.bind_some,r1]
 by_cases h0:z3d w.2.2.2.2.1.2.2.2 w.2.2.2.2.2.2.1 w.2.2.2.2.1.2.2.2.length-z17 w.2.2.2.2.1.2.2.2 w.2.2.2.2.2.1 w.2.2.2.2.1.2.2.1 w.2.2.2.2.1.2.2.2.length=0
 ·rw [decide_eq_true h0]; simp [h0]
 ·rw [decide_eq_false h0,z18f r2 r3]; simp [h0]
theorem z1qv (n:Net) (f s:List Int):(z9v n f s).length≤1:=by
 unfold z9v
 split
 ·split
  ·split <;> simp
  ·simp
 ·simp
def z7k (c:Cx) (d:Int) (i:Nat):Bool:=match c[i]? with
 | some s=>decide ((s.length:Int)=d+1)
 | none=>false
theorem z1qw (c:Cx) (d:Int):ofC c d=(List.range c.length).filter (z7k c d):=rfl
def ofN (c:Cx) (d:Int) (n:Nat):List Nat:=(List.range n).filter (z7k c d)
theorem zuf {c:Cx} {d:Int} {n i:Nat} (h:i∈ofN c d n):i<n:=List.mem_range.1 (List.mem_filter.1 h).1
theorem z18n (c:Cx) (d:Int) (n:Nat):ofN c d (n+1)=ofN c d n++(if z7k c d n=true then [n] else []):=zjj _ _
theorem z18o {c:Cx} {d:Int} {j:Nat} (hj:j<c.length) (h:z7k c d j=true):∃ post,ofC c d=ofN c d j++j::post∧∀ i∈post,i<c.length:=by
 have e:c.length=(j+1)+(c.length-(j+1)):=by omega
 refine ⟨((List.range (c.length-(j+1))).map (j+1+·)).filter (z7k c d),?_,?_⟩
 ·rw [z1qw,e,List.range_add,List.filter_append]
  have:=z18n c d j
  unfold ofN at this
  rw [this,if_pos h]
  simp [ofN]
 ·intro i hi
  obtain ⟨x,hx,rfl⟩:=List.mem_map.1 (List.mem_filter.1 hi).1
  have:=List.mem_range.1 hx
  omega
theorem z1qx (st:List Int) (l m:List Nat):zh st (l++m)=zh st l+zh st m:=by unfold zh; simp
def zjr (s:She) (j:Nat):Int:=match s.1[j]? with
 | some t=>zh s.2.2.1 (ofN s.1 ((t.length:Int)-1) j)
 | none=>0
def oN (s:She) (j:Nat):Nat:=(zjr s j).toNat
theorem zug {s:She} {j:Nat} {t:List Int} (hj:s.1[j]?=some t):zjr s j=zh s.2.2.1 (ofN s.1 ((t.length:Int)-1) j):=by unfold zjr; rw [hj]
theorem zdr {s:She} (hS:StP s.1 s.2.2.1) {j:Nat} {t:List Int} (hj:s.1[j]?=some t) {d:Int} (hd:(t.length:Int)=d+1):zjr s j=(oN s j:Int)∧s.2.2.1.getD j 0=(stN s j:Int)∧(oN s j:Int)+(stN s j:Int)≤zh s.2.2.1 (ofC s.1 d):=by
 have hjl:=(List.getElem?_eq_some_iff.1 hj).1
 have hb:z7k s.1 d j=true:=by unfold z7k; rw [hj]; exact decide_eq_true hd
 obtain ⟨post,e,hp⟩:=z18o hjl hb
 obtain ⟨_,s2,s3⟩:=z7i hS hjl
 have b1:=z9o hS (ofN s.1 d j) (fun i hi=>by have:=zuf hi; omega)
 have b2:=z9o hS post hp
 have e1:zjr s j=zh s.2.2.1 (ofN s.1 d j):=by rw [zug hj,show (t.length:Int)-1=d by omega]
 have e2:zh s.2.2.1 (ofC s.1 d)=zh s.2.2.1 (ofN s.1 d j)+(s.2.2.1.getD j 0+zh s.2.2.1 post):=by
  rw [e,z1qx]
  congr 1
 unfold oN stN
 rw [e1] at *
 omega
theorem zjs {k:Nat} (hk:KK≤k) {s:She} (hC:CxP s.1) (hS:StP s.1 s.2.2.1) {j:Nat} {t:List Int} (hj:s.1[j]?=some t):zg3 k s (j:Int)=some (oN s j:Int):=by
 have hK:=zg
 have hjl:=(List.getElem?_eq_some_iff.1 hj).1
 have hcl:=hC.len
 obtain ⟨o1,_,_⟩:=zdr hS hj (d:=(t.length:Int)-1) (by omega)
 unfold zg3
 have:=z1s (S:=Int) (L:=fun m i z=>zcn k m s (j:Int) z i (fun at_4=>some at_4)) (b:=j) (st:=fun i=>zh s.2.2.1 (ofN s.1 ((t.length:Int)-1) i)) (e:=some (oN s j:Int)) ?_ ?_ (n:=k) (by omega)
 ·simpa [ofN,zh] using this
 ·intro m i hi
  have hlt:(i:Int)<(j:Int):=by omega
  have hw:=zd (i:=i) (by omega)
  have hg:s.1[i]?=some s.1[i]:=List.getElem?_eq_getElem (by omega)
  obtain ⟨s1,s2,s3⟩:=z7i hS (i:=i) (by omega)
  have b1:=z9o hS (ofN s.1 ((t.length:Int)-1) i) (fun x hx=>by have:=zuf hx; omega)
  have b2:(ofN s.1 ((t.length:Int)-1) i).length≤i:=by unfold ofN; exact Nat.le_trans (List.length_filter_le ..) (by rw [List.length_range]; exact Nat.le_refl _)
  have hwz:z6 (zh s.2.2.1 (ofN s.1 ((t.length:Int)-1) i)+s.2.2.1.getD i 0)=zh s.2.2.1 (ofN s.1 ((t.length:Int)-1) i)+s.2.2.1.getD i 0:=zf (by omega) (by omega)
  simp only [zcn,hlt,decide_true,if_true,Int.natCast_nonneg,Int.toNat_natCast,hg,hj,Option.bind_some,hw,s1,hwz,z18n]
  have hd:z7k s.1 ((t.length:Int)-1) i=decide ((s.1[i].length:Int)=(t.length:Int)):=by
   unfold z7k; rw [hg]
   exact decide_eq_decide.2 (by omega)
  rw [hd]
  by_cases c:(s.1[i].length:Int)=(t.length:Int)
  ·rw [decide_eq_true c,if_pos rfl,if_pos rfl,zps]
  ·rw [decide_eq_false c,if_neg (by simp),if_neg (by simp),List.append_nil]
 ·intro m
  simp only [zcn,Int.lt_irrefl,decide_false,Bool.false_eq_true,if_false,← zug hj,o1]
theorem zjt {k:Nat} (hk:KK≤k) {s:She} (hC:CxP s.1) (hS:StP s.1 s.2.2.1) {j:Nat} {t:List Int} (hj:s.1[j]?=some t):zff k s (j:Int)=some (oN s j:Int):=by
 have hK:=zg
 have hjl:=(List.getElem?_eq_some_iff.1 hj).1
 have hcl:=hC.len
 have h4:=(hC.simp t (List.mem_of_getElem? hj)).len4
 obtain ⟨o1,_,_⟩:=zdr hS hj (d:=(t.length:Int)-1) (by omega)
 have hb:z7k s.1 ((t.length:Int)-1) j=true:=by unfold z7k; rw [hj]; exact decide_eq_true (by omega)
 obtain ⟨post,e,_⟩:=z18o hjl hb
 have hwl:z6 ((t.length:Int)-1)=(t.length:Int)-1:=zf (by omega) (by omega)
 unfold zff z88
 simp only [Int.natCast_nonneg,if_true,Int.toNat_natCast,hj,Option.bind_some,hwl,zh2 hk (z2k hC) (show -1000≤(t.length:Int)-1∧(t.length:Int)-1≤1000 by omega),List.length_map]
 generalize hpre:ofN s.1 ((t.length:Int)-1) j=pre at *
 have hmem:∀ x∈pre,x<j:=fun x hx=>zuf (hpre▸hx)
 rw [e]
 have hpl:pre.length≤j:=by rw [← hpre]; unfold ofN; exact Nat.le_trans (List.length_filter_le ..) (by rw [List.length_range]; exact Nat.le_refl _)
 have:=z1s (S:=Int) (L:=fun m i z=>zgw k m (j:Int) z ((pre++j::post).length:Int) i ((pre++j::post).map fun i:Nat=>(i:Int)) s (fun n_7=>some n_7)) (b:=pre.length) (st:=fun i=>zh s.2.2.1 (pre.take i)) (e:=some (oN s j:Int)) ?_ ?_ (n:=k) (by omega)
 ·simpa [zh] using this
 ·intro m i hi
  have hlt:(i:Int)<((pre++j::post).length:Int):=by rw [List.length_append]; omega
  have hin:i<(pre++j::post).length:=by rw [List.length_append]; omega
  have hw:=zd (i:=i) (by omega)
  have hgp:pre[i]?=some pre[i]:=List.getElem?_eq_getElem hi
  have hx:=hmem _ (List.getElem_mem hi)
  have hF:((pre++j::post).map fun i:Nat=>(i:Int))[i]?=some ((pre[i]:Nat):Int):=by rw [List.getElem?_map,List.getElem?_append_left hi,hgp]; rfl
  obtain ⟨s1,s2,s3⟩:=z7i hS (i:=pre[i]) (by omega)
  have b1:=z9o hS (pre.take i) (fun x hx=>by have:=hmem x (List.mem_of_mem_take hx); omega)
  have b2:(pre.take i).length≤i:=by rw [List.length_take]; omega
  have hne:¬ ((pre[i]:Nat):Int)=(j:Int):=by omega
  have hst:zh s.2.2.1 (pre.take (i+1))=zh s.2.2.1 (pre.take i)+s.2.2.1.getD pre[i] 0:=by rw [List.take_add_one,hgp]; exact zps ..
  have hwz:z6 (zh s.2.2.1 (pre.take i)+s.2.2.1.getD pre[i] 0)=zh s.2.2.1 (pre.take i)+s.2.2.1.getD pre[i] 0:=zf (by omega) (by omega)
  simp only [zgw,hlt,decide_true,if_true,Int.natCast_nonneg,Int.toNat_natCast,List.length_map,hin,and_self,hF,Option.bind_some,hne,decide_false,Bool.false_eq_true,if_false,s1,hw,hwz,hst]
 ·intro m
  have hlt:(pre.length:Int)<((pre++j::post).length:Int):=by rw [List.length_append,List.length_cons]; omega
  have hin:pre.length<(pre++j::post).length:=by rw [List.length_append,List.length_cons]; omega
  have hF:((pre++j::post).map fun i:Nat=>(i:Int))[pre.length]?=some (j:Int):=by rw [List.getElem?_map,List.getElem?_append_right (Nat.le_refl _),Nat.sub_self]; rfl
  simp only [zgw,hlt,decide_true,if_true,Int.natCast_nonneg,Int.toNat_natCast,List.length_map,hin,and_self,hF,Option.bind_some,List.take_length]
  rw [← o1,zug hj,hpre]
theorem zuh {k:Nat} (hk:KK≤k) (p:Int) {R C:Nat} (hR:R≤32) (hC:C≤32):zpc k p (R:Int) (C:Int)=some (p,(R:Int),(C:Int),List.replicate (R*C) 0):=by
 have hK:=zg
 have hL:=z1p
 unfold zpc zth
 have row:∀ (i:Nat) (x16 x17:Int) (q3 q:List Int) (u1 u2 u3 u4 u5 u6:Int) (E:Int→Unit→Int→Int→List Int→List Int→Int→Int→Int→Int→Int→Int→Option Mat),q.length≤1024→zda k k (C:Int) () (i:Int) x16 x17 (C:Int) 0 q3 q u1 u2 u3 u4 u5 u6 E=E (C:Int) () x16 x17 q3 (q++List.replicate C 0) u1 u2 u3 u4 u5 u6:=by
  intro i x16 x17 q3 q u1 u2 u3 u4 u5 u6 E hq
  have:=z1s (S:=List Int) (L:=fun m j r=>zda k m (C:Int) () (i:Int) x16 x17 (C:Int) j q3 r u1 u2 u3 u4 u5 u6 E) (b:=C) (st:=fun j=>q++List.replicate j 0) (e:=E (C:Int) () x16 x17 q3 (q++List.replicate C 0) u1 u2 u3 u4 u5 u6) ?_ ?_ (n:=k) (by omega)
  ·simpa using this
  ·intro m j hj
   have hlt:(j:Int)<(C:Int):=by omega
   have hw:=zd (i:=j) (by omega)
   have hlim:((q++List.replicate j (0:Int)).length+1)*8≤LIM:=by rw [List.length_append,List.length_replicate]; omega
   simp only [zda,ztg,hlt,decide_true,if_true,Option.bind_some,List.length_singleton,hlim,hw,List.replicate_succ',List.append_assoc]
  ·intro m
   simp only [zda,Int.lt_irrefl,decide_false,Bool.false_eq_true,if_false]
 have:=z1s (S:=List Int) (L:=fun m i r=>zgv k m (C:Int) () (R:Int) i [] r 0 0 0 p (R:Int) (C:Int) (fun q_15 q_16 v_8a_17 v_8ba_18 v_8bba_19 v_9a_20 v_9ba_21 v_9bba_22=>some (v_9a_20,(v_9ba_21,(v_9bba_22,q_16))))) (b:=R) (st:=fun i=>List.replicate (i*C) 0) (e:=some (p,(R:Int),(C:Int),List.replicate (R*C) 0)) ?_ ?_ (n:=k) (by omega)
 ·simp only [Nat.zero_mul,List.replicate_zero] at this
  rw [this]
  first | done | rfl
 ·intro m i hi
  have hlt:(i:Int)<(R:Int):=by omega
  have hw:=zd (i:=i) (by omega)
  have h1:i*C≤32*32:=Nat.mul_le_mul (by omega) hC
  simp only [zgv,hlt,decide_true,if_true,row i _ _ _ _ _ _ _ _ _ _ _ (show (List.replicate (i*C) (0:Int)).length≤1024 by rw [List.length_replicate]; omega),hw,Nat.succ_mul,List.replicate_append_replicate]
 ·intro m
  simp only [zgv,Int.lt_irrefl,decide_false,Bool.false_eq_true,if_false]
theorem zui (p:Int) {R C:Nat} (hR:R≤32) (hC:C≤32):zfy p (R:Int) (C:Int)=some (p,(R:Int),(C:Int),List.replicate (R*C) 0):=by
 have hL:=z1p
 have h1:R*C≤32*32:=Nat.mul_le_mul hR hC
 unfold zfy
 rw [z6p hR hC,if_pos ⟨by omega,by omega,by omega⟩,Int.toNat_natCast]
def z5g (p:Int) (i:Nat):Int:=if decide (Int.tmod (i:Int) 2=0)=true then 1 else p-1
theorem z1qy {p:Int} (hp:2≤p∧p≤251) (i:Nat):zpd (i:Int) p=some (z5g p i):=by
 unfold zpd z5g
 rw [zf (by omega) (by omega)]
 split <;> rfl
theorem z18p {p:Int} (hp:2≤p∧p≤251) (i:Nat):znq (i:Int) p=some (z5g p i):=by
 have e:Int.tmod 1 p=1:=by rw [Int.tmod_eq_emod_of_nonneg (a:=1) (by omega),Int.emod_eq_of_lt (a:=1) (by omega) (by omega)]
 have hp0:¬ p=0:=by omega
 unfold znq z5g
 rw [zf (by omega) (by omega),e]
 by_cases c:Int.tmod (i:Int) 2=0
 ·rw [decide_eq_true c,if_pos rfl,if_pos rfl,if_neg hp0]
 ·rw [decide_eq_false c,if_neg (by simp),if_neg (by simp)]
theorem z18q {p:Int} (hp:2≤p∧p≤251) (i:Nat):1≤z5g p i∧z5g p i≤250:=by
 unfold z5g; split <;> omega
def z5r (p sg:Int) (m:Mat) (C C' top left a:Nat):Nat→List Int→List Int
 | 0,Q=>Q
 | b+1,Q=>(z5r p sg m C C' top left a b Q).set ((top+a)*C+left+b) (Int.tmod (z6 (m.2.2.2.getD (a*C'+b) 0*sg)) p)
theorem zqa (p sg:Int) (m:Mat) (C C' top left a:Nat) (Q:List Int):∀ b,(z5r p sg m C C' top left a b Q).length=Q.length
 | 0=>rfl
 | b+1=>by unfold z5r; rw [List.length_set]; exact zqa p sg m C C' top left a Q b
def z7l (p sg:Int) (m:Mat) (C C' top left:Nat):Nat→List Int→List Int
 | 0,Q=>Q
 | a+1,Q=>z5r p sg m C C' top left a C' (z7l p sg m C C' top left a Q)
theorem zqb (p sg:Int) (m:Mat) (C C' top left:Nat) (Q:List Int):∀ a,(z7l p sg m C C' top left a Q).length=Q.length
 | 0=>rfl
 | a+1=>by unfold z7l; rw [zqa]; exact zqb p sg m C C' top left Q a
def z3l (s:She) (C j:Nat) (F:List Nat):Nat→List Int→List Int
 | 0,Q=>Q
 | i+1,Q=>z7l s.2.1 (z5g s.2.1 i) (mpS s j i) C (stN s (F.getD i 0)) (oN s j) (oN s (F.getD i 0)) (stN s j) (z3l s C j F i Q)
theorem zh9 (s:She) (C j:Nat) (F:List Nat) (Q:List Int):∀ i,(z3l s C j F i Q).length=Q.length
 | 0=>rfl
 | i+1=>by unfold z3l; rw [zqb]; exact zh9 s C j F Q i
def fcs (s:She) (j:Nat):List Nat:=ze s.1 (s.1.getD j [])
def z3w (s:She) (C:Nat) (O:List Nat):Nat→List Int→List Int
 | 0,Q=>Q
 | n+1,Q=>z3l s C (O.getD n 0) (fcs s (O.getD n 0)) (fcs s (O.getD n 0)).length (z3w s C O n Q)
theorem zds (s:She) (C:Nat) (O:List Nat) (Q:List Int):∀ n,(z3w s C O n Q).length=Q.length
 | 0=>rfl
 | n+1=>by unfold z3w; rw [zh9]; exact zds s C O Q n
def inP (p:Int) (Q:List Int):Prop:=∀ x∈Q,0≤x∧x≤p-1
theorem z1qz {p:Int} {Q:List Int} (h:inP p Q) {i:Nat} {v:Int} (hv:0≤v∧v≤p-1):inP p (Q.set i v):=fun x hx=>by
 rcases List.mem_or_eq_of_mem_set hx with h1 | h1
 ·exact h x h1
 ·rw [h1]; exact hv
theorem z1r0 {p v:Int} (hp:2≤p) (hv:0≤v):0≤Int.tmod v p∧Int.tmod v p≤p-1:=by
 rw [Int.tmod_eq_emod_of_nonneg hv]
 have:=Int.emod_nonneg v (show p≠0 by omega)
 have:=Int.emod_lt_of_pos v (show 0<p by omega)
 omega
theorem z18r {p:Int} (hp:2≤p∧p≤251) {sg:Int} (hs:1≤sg∧sg≤250) {m:Mat} {R' C':Nat} (hm:MatP m R' C') {C top left a:Nat} {Q:List Int} (h:inP p Q):∀ b,inP p (z5r p sg m C C' top left a b Q)
 | 0=>h
 | b+1=>by
  unfold z5r
  have hc:=zjm hm (a*C'+b)
  have h1:0≤m.2.2.2.getD (a*C'+b) 0*sg:=Int.mul_nonneg hc.1 (by omega)
  have h2:m.2.2.2.getD (a*C'+b) 0*sg≤250*250:=Int.mul_le_mul hc.2 hs.2 (by omega) (by omega)
  refine z1qz (z18r hp hs hm h b) ?_
  rw [zf (by omega) (by omega)]
  exact z1r0 hp.1 h1
theorem zuj {p:Int} (hp:2≤p∧p≤251) {sg:Int} (hs:1≤sg∧sg≤250) {m:Mat} {R' C':Nat} (hm:MatP m R' C') {C top left:Nat} {Q:List Int} (h:inP p Q):∀ a,inP p (z7l p sg m C C' top left a Q)
 | 0=>h
 | a+1=>z18r hp hs hm (zuj hp hs hm h a) C'
theorem z18s {T a C Lf b R:Nat} (hR:R≤32) (hC:C≤32) (hT:T+a<R) (hL:Lf+b<C):z6 (z6 (z6 (z6 ((T:Int)+(a:Int))*(C:Int))+(Lf:Int))+(b:Int))=(((T+a)*C+Lf+b:Nat):Int)∧(T+a)*C+Lf+b<R*C:=by
 have h1:(T+a)*C≤32*32:=Nat.mul_le_mul (by omega) hC
 have e1:z6 ((T:Int)+(a:Int))=((T+a:Nat):Int):=by rw [zf (by omega) (by omega)]; omega
 have e2:z6 (((T+a:Nat):Int)*(C:Int))=(((T+a)*C:Nat):Int):=z6p (by omega) hC
 have e3:z6 ((((T+a)*C:Nat):Int)+(Lf:Int))=(((T+a)*C+Lf:Nat):Int):=by rw [zf (by omega) (by omega)]; omega
 have e4:z6 ((((T+a)*C+Lf:Nat):Int)+(b:Int))=(((T+a)*C+Lf+b:Nat):Int):=by rw [zf (by omega) (by omega)]; omega
 have h2:=zpv hT hL
 exact ⟨by rw [e1,e2,e3,e4],by omega⟩
theorem zuk {m:Mat} {R' C':Nat} (hm:MatP m R' C') {a b:Nat} (ha:a<R') (hb:b<C'):z6 (z6 ((a:Int)*(C':Int))+(b:Int))=((a*C'+b:Nat):Int):=by
 have h1:=hm.r32
 have h2:=hm.c32
 have h3:a*C'≤32*32:=Nat.mul_le_mul (by omega) h2
 rw [z6p (by omega) h2,zf (by omega) (by omega)]
 omega
theorem z1r1 {k:Nat} (hk:KK≤k) {s:She} (hp:2≤s.2.1∧s.2.1≤251) {m:Mat} {R' C':Nat} (hm:MatP m R' C') {R C T Lf a i:Nat} (hR:R≤32) (hC:C≤32) (ha:a<R') (hT:T+R'≤R) (hL:Lf+C'≤C) {Q:List Int} (hQ:Q.length=R*C) (k1 x7 x30 x31 x41 x42 x58 x59:Int) (q1 q2 q3:List Int) (a1 a2 a3 b1 b2:Int) (E:Int→Int→Int→Int→Int→Int→Int→Int→Int→Int→Int→List Int→List Int→List Int→List Int→She→Int→Int→Int→Int→Int→Int→Mat→Option Mat) :
  zdb k k k1 x7 (i:Int) (T:Int) (Lf:Int) (a:Int) x30 x31 x41 x42 x58 x59 (C':Int) 0 q1 q2 q3 Q s a1 a2 a3 b1 b2 (C:Int) m E=E k1 x7 (i:Int) (T:Int) (Lf:Int) x30 x31 x41 x42 x58 x59 q1 q2 q3 (z5r s.2.1 (z5g s.2.1 i) m C C' T Lf a C' Q) s a1 a2 a3 b1 b2 (C:Int) m:=by
 have hK:=zg
 have hc32:=hm.c32
 refine z1s (S:=List Int) (L:=fun n b q=>zdb k n k1 x7 (i:Int) (T:Int) (Lf:Int) (a:Int) x30 x31 x41 x42 x58 x59 (C':Int) b q1 q2 q3 q s a1 a2 a3 b1 b2 (C:Int) m E) (b:=C') (st:=fun b=>z5r s.2.1 (z5g s.2.1 i) m C C' T Lf a b Q) ?_ ?_ (n:=k) (by omega)
 ·intro n b hb
  have hlt:(b:Int)<(C':Int):=by omega
  have hw:=zd (i:=b) (by omega)
  obtain ⟨ix,il⟩:=z18s (T:=T) (a:=a) (C:=C) (Lf:=Lf) (b:=b) hR hC (by omega) (by omega)
  have hin:(T+a)*C+Lf+b<(z5r s.2.1 (z5g s.2.1 i) m C C' T Lf a b Q).length:=by rw [zqa,hQ]; exact il
  have hg:=List.getElem?_eq_getElem hin
  have hp0:¬ s.2.1=0:=by omega
  simp only [zdb,zja,hm.cols,zuk hm ha hb,zh3 hm ha hb,hlt,decide_true,if_true,Int.natCast_nonneg,Int.toNat_natCast,Option.bind_some,z1qy hp,hp0,if_false,ix,hin,and_self,hg,hw,z5r]
 ·intro n
  simp only [zdb,Int.lt_irrefl,decide_false,Bool.false_eq_true,if_false]
theorem z1r2 {k:Nat} (hk:KK≤k) {s:She} (hp:2≤s.2.1∧s.2.1≤251) {m:Mat} {R' C':Nat} (hm:MatP m R' C') {R C T Lf a:Nat} (sg:Int) (hR:R≤32) (hC:C≤32) (ha:a<R') (hT:T+R'≤R) (hL:Lf+C'≤C) {Q:List Int} (hQ:Q.length=R*C) (k1 n7 i10:Int) (q1 q2 q3:List Int) (a1 a2 a3 b1 b2:Int) (E:She→Int→Int→Int→Int→Mat→Int→Int→Int→List Int→List Int→List Int→List Int→Int→Int→Int→Int→Int→Int→Option Mat) :
  zco k k s k1 n7 (T:Int) i10 m (Lf:Int) sg (a:Int) 0 q1 q2 q3 Q a1 a2 a3 b1 b2 (C:Int) E=E s k1 n7 (T:Int) i10 m (Lf:Int) sg (a:Int) q1 q2 q3 (z5r s.2.1 sg m C C' T Lf a C' Q) a1 a2 a3 b1 b2 (C:Int):=by
 have hK:=zg
 have hc32:=hm.c32
 refine z1s (S:=List Int) (L:=fun n b q=>zco k n s k1 n7 (T:Int) i10 m (Lf:Int) sg (a:Int) b q1 q2 q3 q a1 a2 a3 b1 b2 (C:Int) E) (b:=C') (st:=fun b=>z5r s.2.1 sg m C C' T Lf a b Q) ?_ ?_ (n:=k) (by omega)
 ·intro n b hb
  have hlt:(b:Int)<m.2.2.1:=by rw [hm.cols]; omega
  have hw:=zd (i:=b) (by omega)
  obtain ⟨ix,il⟩:=z18s (T:=T) (a:=a) (C:=C) (Lf:=Lf) (b:=b) hR hC (by omega) (by omega)
  have hin:(T+a)*C+Lf+b<(z5r s.2.1 sg m C C' T Lf a b Q).length:=by rw [zqa,hQ]; exact il
  have hg:=List.getElem?_eq_getElem hin
  have hp0:¬ s.2.1=0:=by omega
  simp only [zco,hlt,decide_true,if_true]
  simp only [hm.cols,zuk hm ha hb,zh3 hm ha hb,decide_true,if_true,Int.natCast_nonneg,Int.toNat_natCast,Option.bind_some,hp0,if_false,ix,hin,and_self,hg,hw,z5r]
 ·intro n
  have hlt:¬ (C':Int)<m.2.2.1:=by rw [hm.cols]; omega
  simp only [zco,hlt,decide_false,Bool.false_eq_true,if_false]
theorem z18t {k:Nat} (hk:KK≤k) {s:She} (hp:2≤s.2.1∧s.2.1≤251) {m:Mat} {R' C':Nat} (hm:MatP m R' C') {R C T Lf i:Nat} (hR:R≤32) (hC:C≤32) (hT:T+R'≤R) (hL:Lf+C'≤C) {Q:List Int} (hQ:Q.length=R*C) (k1 x7 x30 x31 x41 x42:Int) (q1 q2 q3:List Int) (a1 a2 a3 b1 b2:Int) (E:Int→Int→Int→Int→Int→Int→List Int→List Int→List Int→List Int→She→Int→Int→Int→Int→Int→Int→Option Mat) :
  zdc k k k1 x7 (i:Int) (T:Int) (Lf:Int) x30 x31 x41 x42 (R':Int) 0 q1 q2 q3 Q s a1 a2 a3 b1 b2 (C:Int) m E=E k1 x7 x30 x31 x41 x42 q1 q2 q3 (z7l s.2.1 (z5g s.2.1 i) m C C' T Lf R' Q) s a1 a2 a3 b1 b2 (C:Int):=by
 have hK:=zg
 have hr32:=hm.r32
 refine z1s (S:=List Int) (L:=fun n a q=>zdc k n k1 x7 (i:Int) (T:Int) (Lf:Int) x30 x31 x41 x42 (R':Int) a q1 q2 q3 q s a1 a2 a3 b1 b2 (C:Int) m E) (b:=R') (st:=fun a=>z7l s.2.1 (z5g s.2.1 i) m C C' T Lf a Q) ?_ ?_ (n:=k) (by omega)
 ·intro n a ha
  have hlt:(a:Int)<(R':Int):=by omega
  have hw:=zd (i:=a) (by omega)
  simp only [zdc,hlt,decide_true,if_true]
  rw [hm.cols,z1r1 hk hp hm hR hC ha hT hL (by rw [zqb]; exact hQ)]
  simp only [hw,z7l]
 ·intro n
  simp only [zdc,Int.lt_irrefl,decide_false,Bool.false_eq_true,if_false]
theorem z18u {k:Nat} (hk:KK≤k) {s:She} (hp:2≤s.2.1∧s.2.1≤251) {m:Mat} {R' C':Nat} (hm:MatP m R' C') {R C T Lf:Nat} (sg:Int) (hR:R≤32) (hC:C≤32) (hT:T+R'≤R) (hL:Lf+C'≤C) {Q:List Int} (hQ:Q.length=R*C) (k1 n7 i10:Int) (q1 q2 q3:List Int) (a1 a2 a3 b1 b2:Int) (E:She→Int→Int→Int→Int→List Int→List Int→List Int→List Int→Int→Int→Int→Int→Int→Int→Option Mat) :
  zcp k k s k1 n7 (T:Int) i10 m (Lf:Int) sg 0 q1 q2 q3 Q a1 a2 a3 b1 b2 (C:Int) E=E s k1 n7 (T:Int) i10 q1 q2 q3 (z7l s.2.1 sg m C C' T Lf R' Q) a1 a2 a3 b1 b2 (C:Int):=by
 have hK:=zg
 have hr32:=hm.r32
 refine z1s (S:=List Int) (L:=fun n a q=>zcp k n s k1 n7 (T:Int) i10 m (Lf:Int) sg a q1 q2 q3 q a1 a2 a3 b1 b2 (C:Int) E) (b:=R') (st:=fun a=>z7l s.2.1 sg m C C' T Lf a Q) ?_ ?_ (n:=k) (by omega)
 ·intro n a ha
  have hlt:(a:Int)<m.2.1:=by rw [hm.rows]; omega
  have hw:=zd (i:=a) (by omega)
  simp only [zcp,hlt,decide_true,if_true]
  rw [z1r2 hk hp hm sg hR hC ha hT hL (by rw [zqb]; exact hQ)]
  simp only [hw,z7l]
 ·intro n
  have hlt:¬ (R':Int)<m.2.1:=by rw [hm.rows]; omega
  simp only [zcp,hlt,decide_false,Bool.false_eq_true,if_false]
theorem z1r3 {c:Cx} {d:Int} {j:Nat} (h:j∈ofC c d):∃ t,c[j]?=some t∧(t.length:Int)=d+1:=by
 have hl:=z8h h
 have:=(List.mem_filter.1 h).2
 have hg:c[j]?=some c[j]:=List.getElem?_eq_getElem hl
 rw [hg] at this
 exact ⟨c[j],hg,of_decide_eq_true this⟩
theorem zju {k:Nat} (hk:KK≤k) {s:She} (hs:smallSh s) (h:zy k s=true) {d:Nat} (hd3:d≤3) {j:Nat} (hj:j∈ofC s.1 ((d:Int)+1)) {R C:Nat} (hR:zh s.2.2.1 (ofC s.1 ((d:Int)+1))=(R:Int)) (hC:zh s.2.2.1 (ofC s.1 (d:Int))=(C:Int)):∃ t,s.1[j]?=some t∧fcs s j=ze s.1 t∧(fcs s j).length=d+2∧oN s j+stN s j≤R ∧
  ∀ i,i<d+2→MatP (mpS s j i) (stN s j) (stN s ((fcs s j).getD i 0))∧(fcs s j)[i]?=some ((fcs s j).getD i 0)∧(∃ u,s.1[(fcs s j).getD i 0]?=some u)∧oN s ((fcs s j).getD i 0)+stN s ((fcs s j).getD i 0)≤C:=by
 obtain ⟨hCx,hp,hS⟩:=z1a hk h
 obtain ⟨t,ht,hl⟩:=z1r3 hj
 have hl2:t.length=d+2:=by omega
 have hf:fcs s j=ze s.1 t:=by unfold fcs; rw [List.getD_eq_getElem?_getD,ht]; rfl
 have hfl:=z8i s.1 t
 rw [if_pos (by omega),hl2] at hfl
 have o1:=zdr hS ht (d:=(d:Int)+1) hl
 refine ⟨t,ht,hf,by rw [hf]; exact hfl,by omega,fun i hi=>?_⟩
 rw [hf]
 have hF:(ze s.1 t).getD i 0=z2r s.1 (zw t i):=by
  rw [List.getD_eq_getElem?_getD]
  unfold ze z21
  rw [if_pos (by omega),List.getElem?_map,List.getElem?_map,List.getElem?_range (by omega)]; rfl
 have hmem:=hCx.face t (List.mem_of_getElem? ht) (by omega) i (by omega)
 have hdl:=z8g (s:=t) (k:=i) (by omega)
 have hu:s.1[(ze s.1 t).getD i 0]?=some (zw t i):=by rw [hF]; exact zdj hmem
 have o2:=zdr hS hu (d:=(d:Int)) (by omega)
 have hg:(ze s.1 t)[i]?=some ((ze s.1 t).getD i 0):=by
  rw [List.getD_eq_getElem?_getD,List.getElem?_eq_getElem (by omega)]; rfl
 exact ⟨(zh4 hk hs h ht (by omega)).2,hg,⟨_,hu⟩,by omega⟩
theorem z1r4 {k:Nat} (hk:KK≤k) {s:She} (hs:smallSh s) (h:zy k s=true) {d:Nat} (hd3:d≤3) {j:Nat} (hj:j∈ofC s.1 ((d:Int)+1)) {R C:Nat} (hR:zh s.2.2.1 (ofC s.1 ((d:Int)+1))=(R:Int)) (hC:zh s.2.2.1 (ofC s.1 (d:Int))=(C:Int)) (hR2:R≤32) (hC2:C≤32) {Q:List Int} (hQ:Q.length=R*C) (k1 x30 x31:Int) (q1 q3:List Int) (a1 a2 a3 b1 b2:Int) (E:Int→Int→Int→List Int→List Int→List Int→She→Int→Int→Int→Int→Int→Int→Option Mat) :
  z7d k k k1 (j:Int) x30 x31 ((fcs s j).length:Int) 0 q1 ((fcs s j).map fun i:Nat=>(i:Int)) q3 Q s a1 a2 a3 b1 b2 (C:Int) E=E k1 x30 x31 q1 q3 (z3l s C j (fcs s j) (fcs s j).length Q) s a1 a2 a3 b1 b2 (C:Int):=by
 have hK:=zg
 obtain ⟨hCx,hp,hS⟩:=z1a hk h
 obtain ⟨t,ht,hf,hl,hT,hface⟩:=zju hk hs h hd3 hj hR hC
 refine z1s (S:=List Int) (L:=fun n i q=>z7d k n k1 (j:Int) x30 x31 ((fcs s j).length:Int) i q1 ((fcs s j).map fun i:Nat=>(i:Int)) q3 q s a1 a2 a3 b1 b2 (C:Int) E) (b:=(fcs s j).length) (st:=fun i=>z3l s C j (fcs s j) i Q) ?_ ?_ (n:=k) (by omega)
 ·intro n i hi
  have hlt:(i:Int)<((fcs s j).length:Int):=by omega
  have hw:=zd (i:=i) (by omega)
  obtain ⟨hm,hg,⟨u,hu⟩,hL⟩:=hface i (by omega)
  have hF:((fcs s j).map fun i:Nat=>(i:Int))[i]?=some (((fcs s j).getD i 0:Nat):Int):=by rw [List.getElem?_map,hg]; rfl
  have hd:=zpx hk hs h ht (i:=i) (by rw [← hf]; omega)
  have c1:=zjt hk hCx hS ht
  have c2:=zjt hk hCx hS hu
  simp only [z7d,hlt,decide_true,if_true,Int.natCast_nonneg,Int.toNat_natCast,List.length_map,hi,and_self,hF,Option.bind_some,hd,c1,c2]
  rw [hm.rows,z18t hk hp hm hR2 hC2 hT hL (by rw [zh9]; exact hQ)]
  simp only [hw,z3l]
 ·intro n
  simp only [z7d,Int.lt_irrefl,decide_false,Bool.false_eq_true,if_false]
theorem z1r5 {k:Nat} (hk:KK≤k) {s:She} (hs:smallSh s) (h:zy k s=true) {d:Nat} (hd3:d≤3) {j n7:Nat} (hj:j∈ofC s.1 ((d:Int)+1)) {R C:Nat} (hR:zh s.2.2.1 (ofC s.1 ((d:Int)+1))=(R:Int)) (hC:zh s.2.2.1 (ofC s.1 (d:Int))=(C:Int)) (hR2:R≤32) (hC2:C≤32) {Q:List Int} (hQ:Q.length=R*C) (k1:Int) (q1 q3:List Int) (hq:q1[n7]?=some (j:Int)) (a1 a2 a3 b1 b2:Int) (E:She→Int→Int→List Int→List Int→List Int→Int→Int→Int→Int→Int→Int→Option Mat) :
  z7c k k s k1 (n7:Int) (oN s j:Int) 0 q1 ((fcs s j).map fun i:Nat=>(i:Int)) q3 Q a1 a2 a3 b1 b2 (C:Int) E=E s k1 (n7:Int) q1 q3 (z3l s C j (fcs s j) (fcs s j).length Q) a1 a2 a3 b1 b2 (C:Int):=by
 have hK:=zg
 obtain ⟨hCx,hp,hS⟩:=z1a hk h
 obtain ⟨t,ht,hf,hl,hT,hface⟩:=zju hk hs h hd3 hj hR hC
 have hqn:n7<q1.length:=(List.getElem?_eq_some_iff.1 hq).1
 refine z1s (S:=List Int) (L:=fun n i q=>z7c k n s k1 (n7:Int) (oN s j:Int) i q1 ((fcs s j).map fun i:Nat=>(i:Int)) q3 q a1 a2 a3 b1 b2 (C:Int) E) (b:=(fcs s j).length) (st:=fun i=>z3l s C j (fcs s j) i Q) ?_ ?_ (n:=k) (by omega)
 ·intro n i hi
  have hlt:(i:Int)<((fcs s j).length:Int):=by omega
  have hw:=zd (i:=i) (by omega)
  obtain ⟨hm,hg,⟨u,hu⟩,hL⟩:=hface i (by omega)
  have hF:((fcs s j).map fun i:Nat=>(i:Int))[i]?=some (((fcs s j).getD i 0:Nat):Int):=by rw [List.getElem?_map,hg]; rfl
  have hd:=zjn hk hs h ht (i:=i) (by rw [← hf]; omega)
  have c2:=zjs hk hCx hS hu
  simp only [z7c,hlt,decide_true,if_true,Int.natCast_nonneg,Int.toNat_natCast,List.length_map,hi,hqn,hq,and_self,hF,Option.bind_some,hd,c2,z18p hp]
  rw [z18u hk hp hm (z5g s.2.1 i) hR2 hC2 hT hL (by rw [zh9]; exact hQ)]
  simp only [hw,z3l]
 ·intro n
  simp only [z7c,List.length_map,Int.lt_irrefl,decide_false,Bool.false_eq_true,if_false]
def zqc (s:She) (d R C:Nat):Mat:=(s.2.1,(R:Int),(C:Int),z3w s C (ofC s.1 ((d:Int)+1)) (ofC s.1 ((d:Int)+1)).length (List.replicate (R*C) 0))
theorem z1r6 {k:Nat} (hk:KK≤k) {s:She} (h:zy k s=true) (d:Nat) (hd:d<4):∃ R:Nat,zh s.2.2.1 (ofC s.1 (d:Int))=(R:Int)∧R≤32:=by
 obtain ⟨hCx,hp,hS⟩:=z1a hk h
 have h1:=z9o hS (ofC s.1 (d:Int)) (fun i hi=>z8h hi)
 have h2:zh s.2.2.1 (ofC s.1 (d:Int))≤32:=by
  unfold zy at h
  simp only [Bool.and_eq_true] at h
  have:=h.2.2.1
  unfold stB at this
  rw [Bool.and_eq_true,List.all_eq_true] at this
  exact of_decide_eq_true (this.2 d (List.mem_range.2 hd))
 exact ⟨(zh s.2.2.1 (ofC s.1 (d:Int))).toNat,by omega,by omega⟩
theorem z1r7 {k:Nat} (hk:KK≤k) {s:She} (hs:smallSh s) (h:zy k s=true) {d:Nat} (hd3:d≤3) {R C:Nat} (hR:zh s.2.2.1 (ofC s.1 ((d:Int)+1))=(R:Int)) (hC:zh s.2.2.1 (ofC s.1 (d:Int))=(C:Int)) (hR2:R≤32) (hC2:C≤32):z83 k s (d:Int)=some (zqc s d R C):=by
 have hK:=zg
 obtain ⟨hCx,hp,hS⟩:=z1a hk h
 have hcl:=hCx.len
 have hol:=z9n s.1 ((d:Int)+1)
 have w1:z6 ((d:Int)+1)=(d:Int)+1:=zf (by omega) (by omega)
 have hd0:¬ (d:Int)<0:=by omega
 have hd1:(0:Int)≤(d:Int):=by omega
 unfold z83
 simp only [w1,z9q hk (z2k hCx) hS (show -1000≤(d:Int)+1∧(d:Int)+1≤1000 by omega),z9q hk (z2k hCx) hS (show -1000≤(d:Int)∧(d:Int)≤1000 by omega),hR,hC,Option.bind_some,zuh hk s.2.1 hR2 hC2,zh2 hk (z2k hCx) (show -1000≤(d:Int)+1∧(d:Int)+1≤1000 by omega),List.length_map]
 refine z1s (S:=List Int) (L:=fun n i q=>z8c k n (d:Int) ((ofC s.1 ((d:Int)+1)).length:Int) i ((ofC s.1 ((d:Int)+1)).map fun i:Nat=>(i:Int)) [] q s 0 0 0 s.2.1 (R:Int) (C:Int) (fun q_23 q_24 v_4a_25 v_4ba_26 v_4bba_27 v_5a_28 v_5ba_29 v_5bba_30=>some (v_5a_28,(v_5ba_29,(v_5bba_30,q_24))))) (b:=(ofC s.1 ((d:Int)+1)).length) (st:=fun n=>z3w s C (ofC s.1 ((d:Int)+1)) n (List.replicate (R*C) 0)) ?_ ?_ (n:=k) (by omega)
 ·intro m n hn
  have hlt:(n:Int)<((ofC s.1 ((d:Int)+1)).length:Int):=by omega
  have hw:=zd (i:=n) (by omega)
  have hg:(ofC s.1 ((d:Int)+1))[n]?=some ((ofC s.1 ((d:Int)+1)).getD n 0):=by rw [List.getD_eq_getElem?_getD,List.getElem?_eq_getElem hn]; rfl
  have hmem:(ofC s.1 ((d:Int)+1)).getD n 0∈ofC s.1 ((d:Int)+1):=List.mem_of_getElem? hg
  have hF:((ofC s.1 ((d:Int)+1)).map fun i:Nat=>(i:Int))[n]?=some (((ofC s.1 ((d:Int)+1)).getD n 0:Nat):Int):=by rw [List.getElem?_map,hg]; rfl
  obtain ⟨t,ht,hf,hl,hT,hface⟩:=zju hk hs h hd3 hmem hR hC
  have hfi:=zb8 hk hCx ht
  rw [← hf] at hfi
  simp only [z8c,hlt,decide_true,if_true,Int.natCast_nonneg,Int.toNat_natCast,List.length_map,hn,and_self,hF,Option.bind_some,hd0,decide_false,Bool.false_eq_true,if_false,hfi]
  rw [z1r4 hk hs h hd3 hmem hR hC hR2 hC2 (by rw [zds,List.length_replicate])]
  simp only [hw,z3w]
 ·intro m
  simp only [z8c,Int.lt_irrefl,decide_false,Bool.false_eq_true,if_false]
  rfl
theorem z1r8 {k:Nat} (hk:KK≤k) {s:She} (hs:smallSh s) (h:zy k s=true) {d:Nat} (hd3:d≤3) {R C:Nat} (hR:zh s.2.2.1 (ofC s.1 ((d:Int)+1))=(R:Int)) (hC:zh s.2.2.1 (ofC s.1 (d:Int))=(C:Int)) (hR2:R≤32) (hC2:C≤32):z86 k s (d:Int)=some (zqc s d R C):=by
 have hK:=zg
 obtain ⟨hCx,hp,hS⟩:=z1a hk h
 have hcl:=hCx.len
 have hol:=z9n s.1 ((d:Int)+1)
 have w1:z6 ((d:Int)+1)=(d:Int)+1:=zf (by omega) (by omega)
 have hd0:¬ (d:Int)<0:=by omega
 have hd1:(0:Int)≤(d:Int):=by omega
 unfold z86
 simp only [w1,z9p hk (z2k hCx) hS (show -1000≤(d:Int)+1∧(d:Int)+1≤1000 by omega),z9p hk (z2k hCx) hS (show -1000≤(d:Int)∧(d:Int)≤1000 by omega),hR,hC,Option.bind_some,zui s.2.1 hR2 hC2,zjk hk (z2k hCx) (show -1000≤(d:Int)+1∧(d:Int)+1≤1000 by omega)]
 refine z1s (S:=List Int) (L:=fun n i q=>z85 k n s (d:Int) i ((ofC s.1 ((d:Int)+1)).map fun i:Nat=>(i:Int)) [] q 0 0 0 s.2.1 (R:Int) (C:Int) (fun q_24 q_25 v_4a_26 v_4ba_27 v_4bba_28 v_5a_29 v_5ba_30 v_5bba_31=>some (v_5a_29,(v_5ba_30,(v_5bba_31,q_25))))) (b:=(ofC s.1 ((d:Int)+1)).length) (st:=fun n=>z3w s C (ofC s.1 ((d:Int)+1)) n (List.replicate (R*C) 0)) ?_ ?_ (n:=k) (by omega)
 ·intro m n hn
  have hlt:(n:Int)<((ofC s.1 ((d:Int)+1)).length:Int):=by omega
  have hw:=zd (i:=n) (by omega)
  have hg:(ofC s.1 ((d:Int)+1))[n]?=some ((ofC s.1 ((d:Int)+1)).getD n 0):=by rw [List.getD_eq_getElem?_getD,List.getElem?_eq_getElem hn]; rfl
  have hmem:(ofC s.1 ((d:Int)+1)).getD n 0∈ofC s.1 ((d:Int)+1):=List.mem_of_getElem? hg
  have hF:((ofC s.1 ((d:Int)+1)).map fun i:Nat=>(i:Int))[n]?=some (((ofC s.1 ((d:Int)+1)).getD n 0:Nat):Int):=by rw [List.getElem?_map,hg]; rfl
  obtain ⟨t,ht,hf,hl,hT,hface⟩:=zju hk hs h hd3 hmem hR hC
  have hfi:=zpt hk hCx ht
  rw [← hf] at hfi
  have c1:=zjs hk hCx hS ht
  simp only [z85,hlt,decide_true,if_true,Int.natCast_nonneg,Int.toNat_natCast,List.length_map,hn,and_self,hF,Option.bind_some,hd1,hfi,c1]
  rw [z1r5 hk hs h hd3 hmem hR hC hR2 hC2 (by rw [zds,List.length_replicate]) _ _ _ hF]
  simp only [hw,z3w]
 ·intro m
  simp only [z85,List.length_map,Int.lt_irrefl,decide_false,Bool.false_eq_true,if_false]
  rfl
theorem z18v {s:She} (hp:2≤s.2.1∧s.2.1≤251) {C j:Nat} {F:List Nat} {Q:List Int} (h:inP s.2.1 Q):∀ i,(∀ x,x<i→∃ R' C',MatP (mpS s j x) R' C'∧C'=stN s (F.getD x 0))→inP s.2.1 (z3l s C j F i Q)
 | 0,_=>h
 | i+1,hm=>by
  obtain ⟨R',C',h1,h2⟩:=hm i (by omega)
  unfold z3l
  rw [← h2]
  exact zuj hp (z18q hp i) h1 (z18v hp h i fun x hx=>hm x (by omega)) _
theorem z18w {k:Nat} (hk:KK≤k) {s:She} (hs:smallSh s) (h:zy k s=true) {d:Nat} (hd3:d≤3) {R C:Nat} (hR:zh s.2.2.1 (ofC s.1 ((d:Int)+1))=(R:Int)) (hC:zh s.2.2.1 (ofC s.1 (d:Int))=(C:Int)) {Q:List Int} (hQ:inP s.2.1 Q):∀ n,n≤(ofC s.1 ((d:Int)+1)).length→inP s.2.1 (z3w s C (ofC s.1 ((d:Int)+1)) n Q)
 | 0,_=>hQ
 | n+1,hn=>by
  obtain ⟨hCx,hp,hS⟩:=z1a hk h
  have hg:(ofC s.1 ((d:Int)+1))[n]?=some ((ofC s.1 ((d:Int)+1)).getD n 0):=by rw [List.getD_eq_getElem?_getD,List.getElem?_eq_getElem (by omega)]; rfl
  obtain ⟨t,ht,hf,hl,hT,hface⟩:=zju hk hs h hd3 (List.mem_of_getElem? hg) hR hC
  unfold z3w
  exact z18v hp (z18w hk hs h hd3 hR hC hQ n (by omega)) _ fun x hx=>⟨_,_,(hface x (by omega)).1,rfl⟩
theorem z1r9 {k:Nat} (hk:KK≤k) {s:She} (hs:smallSh s) (h:zy k s=true) {d:Nat} (hd3:d≤3) {R C:Nat} (hR:zh s.2.2.1 (ofC s.1 ((d:Int)+1))=(R:Int)) (hC:zh s.2.2.1 (ofC s.1 (d:Int))=(C:Int)) (hR2:R≤32) (hC2:C≤32):MatP (zqc s d R C) R C:=by
 obtain ⟨hCx,hp,hS⟩:=z1a hk h
 have hin:=z18w hk hs h hd3 hR hC (Q:=List.replicate (R*C) 0) (fun x hx=>by have:=List.eq_of_mem_replicate hx; subst this; omega) (ofC s.1 ((d:Int)+1)).length (Nat.le_refl _)
 exact ⟨rfl,rfl,hR2,hC2,by show (z3w _ _ _ _ _).length=_; rw [zds,List.length_replicate],hp,fun x hx=>by have:=hin x hx; omega,fun x hx=>by have:=hin x hx; show x<s.2.1; omega⟩
theorem z18x {c:Cx} {d:Int} {j:Nat} (h:j∈ofC c d):∃ t,c[j]?=some t∧(t.length:Int)=d+1:=by
 have hl:=z8h h
 have:=(List.mem_filter.1 h).2
 have hg:c[j]?=some c[j]:=List.getElem?_eq_getElem hl
 rw [hg] at this
 exact ⟨c[j],hg,of_decide_eq_true this⟩
theorem zjv {k:Nat} (hk:KK≤k) {s:She} (hs:smallSh s) (h:zy k s=true) {j:Nat} (hj:j∈ofC s.1 1) {R C:Nat} (hR:zh s.2.2.1 (ofC s.1 1)=(R:Int)) (hC:zh s.2.2.1 (ofC s.1 0)=(C:Int)):∃ t,s.1[j]?=some t∧fcs s j=ze s.1 t∧(fcs s j).length=2∧oN s j+stN s j≤R ∧
  ∀ i,i<2→MatP (mpS s j i) (stN s j) (stN s ((fcs s j).getD i 0))∧(fcs s j)[i]?=some ((fcs s j).getD i 0)∧(∃ u,s.1[(fcs s j).getD i 0]?=some u)∧oN s ((fcs s j).getD i 0)+stN s ((fcs s j).getD i 0)≤C:=by
 obtain ⟨hCx,hp,hS⟩:=z1a hk h
 obtain ⟨t,ht,hl⟩:=z18x hj
 have hl2:t.length=2:=by omega
 have hf:fcs s j=ze s.1 t:=by unfold fcs; rw [List.getD_eq_getElem?_getD,ht]; rfl
 have hfl:=z8i s.1 t
 rw [if_pos (by omega),hl2] at hfl
 have o1:=zdr hS ht (d:=1) hl
 refine ⟨t,ht,hf,by rw [hf]; exact hfl,by omega,fun i hi=>?_⟩
 rw [hf]
 have hF:(ze s.1 t).getD i 0=z2r s.1 (zw t i):=by
  rw [List.getD_eq_getElem?_getD]
  unfold ze z21
  rw [if_pos (by omega),List.getElem?_map,List.getElem?_map,List.getElem?_range (by omega)]; rfl
 have hmem:=hCx.face t (List.mem_of_getElem? ht) (by omega) i (by omega)
 have hdl:=z8g (s:=t) (k:=i) (by omega)
 have hu:s.1[(ze s.1 t).getD i 0]?=some (zw t i):=by rw [hF]; exact zdj hmem
 have o2:=zdr hS hu (d:=0) (by omega)
 have hg:(ze s.1 t)[i]?=some ((ze s.1 t).getD i 0):=by
  rw [List.getD_eq_getElem?_getD,List.getElem?_eq_getElem (by omega)]; rfl
 exact ⟨(zh4 hk hs h ht (by omega)).2,hg,⟨_,hu⟩,by omega⟩
theorem z1ra {k:Nat} (hk:KK≤k) {s:She} (hs:smallSh s) (h:zy k s=true) {j:Nat} (hj:j∈ofC s.1 1) {R C:Nat} (hR:zh s.2.2.1 (ofC s.1 1)=(R:Int)) (hC:zh s.2.2.1 (ofC s.1 0)=(C:Int)) (hR2:R≤32) (hC2:C≤32) {Q:List Int} (hQ:Q.length=R*C) (k1 x30 x31:Int) (q1 q3:List Int) (a1 a2 a3 b1 b2:Int) (E:Int→Int→Int→List Int→List Int→List Int→She→Int→Int→Int→Int→Int→Int→Option Mat) :
  z7d k k k1 (j:Int) x30 x31 ((fcs s j).length:Int) 0 q1 ((fcs s j).map fun i:Nat=>(i:Int)) q3 Q s a1 a2 a3 b1 b2 (C:Int) E=E k1 x30 x31 q1 q3 (z3l s C j (fcs s j) (fcs s j).length Q) s a1 a2 a3 b1 b2 (C:Int):=by
 have hK:=zg
 obtain ⟨hCx,hp,hS⟩:=z1a hk h
 obtain ⟨t,ht,hf,hl,hT,hface⟩:=zjv hk hs h hj hR hC
 refine z1s (S:=List Int) (L:=fun n i q=>z7d k n k1 (j:Int) x30 x31 ((fcs s j).length:Int) i q1 ((fcs s j).map fun i:Nat=>(i:Int)) q3 q s a1 a2 a3 b1 b2 (C:Int) E) (b:=(fcs s j).length) (st:=fun i=>z3l s C j (fcs s j) i Q) ?_ ?_ (n:=k) (by omega)
 ·intro n i hi
  have hlt:(i:Int)<((fcs s j).length:Int):=by omega
  have hw:=zd (i:=i) (by omega)
  obtain ⟨hm,hg,⟨u,hu⟩,hL⟩:=hface i (by omega)
  have hF:((fcs s j).map fun i:Nat=>(i:Int))[i]?=some (((fcs s j).getD i 0:Nat):Int):=by rw [List.getElem?_map,hg]; rfl
  have hd:=zpx hk hs h ht (i:=i) (by rw [← hf]; omega)
  have c1:=zjt hk hCx hS ht
  have c2:=zjt hk hCx hS hu
  simp only [z7d,hlt,decide_true,if_true,Int.natCast_nonneg,Int.toNat_natCast,List.length_map,hi,and_self,hF,Option.bind_some,hd,c1,c2]
  rw [hm.rows,z18t hk hp hm hR2 hC2 hT hL (by rw [zh9]; exact hQ)]
  simp only [hw,z3l]
 ·intro n
  simp only [z7d,Int.lt_irrefl,decide_false,Bool.false_eq_true,if_false]
theorem z1rb {k:Nat} (hk:KK≤k) {s:She} (hs:smallSh s) (h:zy k s=true) {j n7:Nat} (hj:j∈ofC s.1 1) {R C:Nat} (hR:zh s.2.2.1 (ofC s.1 1)=(R:Int)) (hC:zh s.2.2.1 (ofC s.1 0)=(C:Int)) (hR2:R≤32) (hC2:C≤32) {Q:List Int} (hQ:Q.length=R*C) (k1:Int) (q1 q3:List Int) (hq:q1[n7]?=some (j:Int)) (a1 a2 a3 b1 b2:Int) (E:She→Int→Int→List Int→List Int→List Int→Int→Int→Int→Int→Int→Int→Option Mat) :
  z7c k k s k1 (n7:Int) (oN s j:Int) 0 q1 ((fcs s j).map fun i:Nat=>(i:Int)) q3 Q a1 a2 a3 b1 b2 (C:Int) E=E s k1 (n7:Int) q1 q3 (z3l s C j (fcs s j) (fcs s j).length Q) a1 a2 a3 b1 b2 (C:Int):=by
 have hK:=zg
 obtain ⟨hCx,hp,hS⟩:=z1a hk h
 obtain ⟨t,ht,hf,hl,hT,hface⟩:=zjv hk hs h hj hR hC
 have hqn:n7<q1.length:=(List.getElem?_eq_some_iff.1 hq).1
 refine z1s (S:=List Int) (L:=fun n i q=>z7c k n s k1 (n7:Int) (oN s j:Int) i q1 ((fcs s j).map fun i:Nat=>(i:Int)) q3 q a1 a2 a3 b1 b2 (C:Int) E) (b:=(fcs s j).length) (st:=fun i=>z3l s C j (fcs s j) i Q) ?_ ?_ (n:=k) (by omega)
 ·intro n i hi
  have hlt:(i:Int)<((fcs s j).length:Int):=by omega
  have hw:=zd (i:=i) (by omega)
  obtain ⟨hm,hg,⟨u,hu⟩,hL⟩:=hface i (by omega)
  have hF:((fcs s j).map fun i:Nat=>(i:Int))[i]?=some (((fcs s j).getD i 0:Nat):Int):=by rw [List.getElem?_map,hg]; rfl
  have hd:=zjn hk hs h ht (i:=i) (by rw [← hf]; omega)
  have c2:=zjs hk hCx hS hu
  simp only [z7c,hlt,decide_true,if_true,Int.natCast_nonneg,Int.toNat_natCast,List.length_map,hi,hqn,hq,and_self,hF,Option.bind_some,hd,c2,z18p hp]
  rw [z18u hk hp hm (z5g s.2.1 i) hR2 hC2 hT hL (by rw [zh9]; exact hQ)]
  simp only [hw,z3l]
 ·intro n
  simp only [z7c,List.length_map,Int.lt_irrefl,decide_false,Bool.false_eq_true,if_false]
def z36 (s:She) (R C:Nat):Mat:=(s.2.1,(R:Int),(C:Int),z3w s C (ofC s.1 1) (ofC s.1 1).length (List.replicate (R*C) 0))
theorem z18y {k:Nat} (hk:KK≤k) {s:She} (h:zy k s=true) (d:Nat) (hd:d<4):∃ R:Nat,zh s.2.2.1 (ofC s.1 (d:Int))=(R:Int)∧R≤32:=by
 obtain ⟨hCx,hp,hS⟩:=z1a hk h
 have h1:=z9o hS (ofC s.1 (d:Int)) (fun i hi=>z8h hi)
 have h2:zh s.2.2.1 (ofC s.1 (d:Int))≤32:=by
  unfold zy at h
  simp only [Bool.and_eq_true] at h
  have:=h.2.2.1
  unfold stB at this
  rw [Bool.and_eq_true,List.all_eq_true] at this
  exact of_decide_eq_true (this.2 d (List.mem_range.2 hd))
 exact ⟨(zh s.2.2.1 (ofC s.1 (d:Int))).toNat,by omega,by omega⟩
theorem z1rc {k:Nat} (hk:KK≤k) {s:She} (hs:smallSh s) (h:zy k s=true) {R C:Nat} (hR:zh s.2.2.1 (ofC s.1 1)=(R:Int)) (hC:zh s.2.2.1 (ofC s.1 0)=(C:Int)) (hR2:R≤32) (hC2:C≤32):z83 k s 0=some (z36 s R C):=by
 have hK:=zg
 obtain ⟨hCx,hp,hS⟩:=z1a hk h
 have hcl:=hCx.len
 have hol:=z9n s.1 1
 have w1:z6 (0+1)=1:=zf (by omega) (by omega)
 unfold z83
 simp only [w1,z9q hk (z2k hCx) hS (show -1000≤(1:Int)∧(1:Int)≤1000 by omega),z9q hk (z2k hCx) hS (show -1000≤(0:Int)∧(0:Int)≤1000 by omega),hR,hC,Option.bind_some,zuh hk s.2.1 hR2 hC2,zh2 hk (z2k hCx) (show -1000≤(1:Int)∧(1:Int)≤1000 by omega),List.length_map]
 refine z1s (S:=List Int) (L:=fun n i q=>z8c k n 0 ((ofC s.1 1).length:Int) i ((ofC s.1 1).map fun i:Nat=>(i:Int)) [] q s 0 0 0 s.2.1 (R:Int) (C:Int) (fun q_23 q_24 v_4a_25 v_4ba_26 v_4bba_27 v_5a_28 v_5ba_29 v_5bba_30=>some (v_5a_28,(v_5ba_29,(v_5bba_30,q_24))))) (b:=(ofC s.1 1).length) (st:=fun n=>z3w s C (ofC s.1 1) n (List.replicate (R*C) 0)) ?_ ?_ (n:=k) (by omega)
 ·intro m n hn
  have hlt:(n:Int)<((ofC s.1 1).length:Int):=by omega
  have hw:=zd (i:=n) (by omega)
  have hg:(ofC s.1 1)[n]?=some ((ofC s.1 1).getD n 0):=by rw [List.getD_eq_getElem?_getD,List.getElem?_eq_getElem hn]; rfl
  have hmem:(ofC s.1 1).getD n 0∈ofC s.1 1:=List.mem_of_getElem? hg
  have hF:((ofC s.1 1).map fun i:Nat=>(i:Int))[n]?=some (((ofC s.1 1).getD n 0:Nat):Int):=by rw [List.getElem?_map,hg]; rfl
  obtain ⟨t,ht,hf,hl,hT,hface⟩:=zjv hk hs h hmem hR hC
  have hfi:=zb8 hk hCx ht
  rw [← hf] at hfi
  simp only [z8c,hlt,decide_true,if_true,Int.natCast_nonneg,Int.toNat_natCast,List.length_map,hn,and_self,hF,Option.bind_some,Int.lt_irrefl,decide_false,Bool.false_eq_true,if_false,hfi]
  rw [z1ra hk hs h hmem hR hC hR2 hC2 (by rw [zds,List.length_replicate])]
  simp only [hw,z3w]
 ·intro m
  simp only [z8c,Int.lt_irrefl,decide_false,Bool.false_eq_true,if_false]
  rfl
theorem z1rd {k:Nat} (hk:KK≤k) {s:She} (hs:smallSh s) (h:zy k s=true) {R C:Nat} (hR:zh s.2.2.1 (ofC s.1 1)=(R:Int)) (hC:zh s.2.2.1 (ofC s.1 0)=(C:Int)) (hR2:R≤32) (hC2:C≤32):z86 k s 0=some (z36 s R C):=by
 have hK:=zg
 obtain ⟨hCx,hp,hS⟩:=z1a hk h
 have hcl:=hCx.len
 have hol:=z9n s.1 1
 have w1:z6 (0+1)=1:=zf (by omega) (by omega)
 unfold z86
 simp only [w1,z9p hk (z2k hCx) hS (show -1000≤(1:Int)∧(1:Int)≤1000 by omega),z9p hk (z2k hCx) hS (show -1000≤(0:Int)∧(0:Int)≤1000 by omega),hR,hC,Option.bind_some,zui s.2.1 hR2 hC2,zjk hk (z2k hCx) (show -1000≤(1:Int)∧(1:Int)≤1000 by omega)]
 refine z1s (S:=List Int) (L:=fun n i q=>z85 k n s 0 i ((ofC s.1 1).map fun i:Nat=>(i:Int)) [] q 0 0 0 s.2.1 (R:Int) (C:Int) (fun q_24 q_25 v_4a_26 v_4ba_27 v_4bba_28 v_5a_29 v_5ba_30 v_5bba_31=>some (v_5a_29,(v_5ba_30,(v_5bba_31,q_25))))) (b:=(ofC s.1 1).length) (st:=fun n=>z3w s C (ofC s.1 1) n (List.replicate (R*C) 0)) ?_ ?_ (n:=k) (by omega)
 ·intro m n hn
  have hlt:(n:Int)<((ofC s.1 1).length:Int):=by omega
  have hw:=zd (i:=n) (by omega)
  have hg:(ofC s.1 1)[n]?=some ((ofC s.1 1).getD n 0):=by rw [List.getD_eq_getElem?_getD,List.getElem?_eq_getElem hn]; rfl
  have hmem:(ofC s.1 1).getD n 0∈ofC s.1 1:=List.mem_of_getElem? hg
  have hF:((ofC s.1 1).map fun i:Nat=>(i:Int))[n]?=some (((ofC s.1 1).getD n 0:Nat):Int):=by rw [List.getElem?_map,hg]; rfl
  obtain ⟨t,ht,hf,hl,hT,hface⟩:=zjv hk hs h hmem hR hC
  have hfi:=zpt hk hCx ht
  rw [← hf] at hfi
  have c1:=zjs hk hCx hS ht
  simp only [z85,hlt,decide_true,if_true,Int.natCast_nonneg,Int.toNat_natCast,List.length_map,hn,and_self,hF,Option.bind_some,Int.le_refl,hfi,c1]
  rw [z1rb hk hs h hmem hR hC hR2 hC2 (by rw [zds,List.length_replicate]) _ _ _ hF]
  simp only [hw,z3w]
 ·intro m
  simp only [z85,List.length_map,Int.lt_irrefl,decide_false,Bool.false_eq_true,if_false]
  rfl
instance dec_Problem_1:DecidableEq (List UInt8×List UInt8):=inferInstance
instance dec_Problem:DecidableEq (Int×List UInt8×List UInt8):=inferInstance
def z5s (a:Int×List UInt8×List UInt8):Nat:=(List.length (a.2.1))+(List.length (a.2.2))
instance dec_ProblemS:DecidableEq (List (Int×List UInt8×List UInt8)):=inferInstance
def z2v (a:List (Int×List UInt8×List UInt8)):Nat:=a.length+z1h z5s a
theorem z18z {s:She} (hp:2≤s.2.1∧s.2.1≤251) {C j:Nat} {F:List Nat} {Q:List Int} (h:inP s.2.1 Q):∀ i,(∀ x,x<i→∃ R' C',MatP (mpS s j x) R' C'∧C'=stN s (F.getD x 0))→inP s.2.1 (z3l s C j F i Q)
 | 0,_=>h
 | i+1,hm=>by
  obtain ⟨R',C',h1,h2⟩:=hm i (by omega)
  unfold z3l
  rw [← h2]
  exact zuj hp (z18q hp i) h1 (z18z hp h i fun x hx=>hm x (by omega)) _
theorem z190 {k:Nat} (hk:KK≤k) {s:She} (hs:smallSh s) (h:zy k s=true) {R C:Nat} (hR:zh s.2.2.1 (ofC s.1 1)=(R:Int)) (hC:zh s.2.2.1 (ofC s.1 0)=(C:Int)) {Q:List Int} (hQ:inP s.2.1 Q):∀ n,n≤(ofC s.1 1).length→inP s.2.1 (z3w s C (ofC s.1 1) n Q)
 | 0,_=>hQ
 | n+1,hn=>by
  obtain ⟨hCx,hp,hS⟩:=z1a hk h
  have hg:(ofC s.1 1)[n]?=some ((ofC s.1 1).getD n 0):=by rw [List.getD_eq_getElem?_getD,List.getElem?_eq_getElem (by omega)]; rfl
  obtain ⟨t,ht,hf,hl,hT,hface⟩:=zjv hk hs h (List.mem_of_getElem? hg) hR hC
  unfold z3w
  exact z18z hp (z190 hk hs h hR hC hQ n (by omega)) _ fun x hx=>⟨_,_,(hface x (by omega)).1,rfl⟩
theorem z191 {k:Nat} (hk:KK≤k) {s:She} (hs:smallSh s) (h:zy k s=true) {R C:Nat} (hR:zh s.2.2.1 (ofC s.1 1)=(R:Int)) (hC:zh s.2.2.1 (ofC s.1 0)=(C:Int)) (hR2:R≤32) (hC2:C≤32):MatP (z36 s R C) R C:=by
 obtain ⟨hCx,hp,hS⟩:=z1a hk h
 have hin:=z190 hk hs h hR hC (Q:=List.replicate (R*C) 0) (fun x hx=>by have:=List.eq_of_mem_replicate hx; subst this; omega) (ofC s.1 1).length (Nat.le_refl _)
 exact ⟨rfl,rfl,hR2,hC2,by show (z3w _ _ _ _ _).length=_; rw [zds,List.length_replicate],hp,fun x hx=>by have:=hin x hx; omega,fun x hx=>by have:=hin x hx; show x<s.2.1; omega⟩
def apT (m:Mat) (v:List Int) (C i t:Nat):Int:=m.2.2.2.getD (i*C+t) 0*v.getD t 0
def z2w (m:Mat) (v:List Int) (C:Nat) (n:Nat):List Int:=(List.range n).map fun i=>z2a (apT m v C i) C % m.1
theorem z192 (m:Mat) (v:List Int) (C n:Nat):z2w m v C (n+1)=z2w m v C n++[z2a (apT m v C n) C % m.1]:=by
 unfold z2w; rw [List.range_succ,List.map_append]; rfl
theorem zjw (m:Mat) (v:List Int) (C n:Nat):(z2w m v C n).length=n:=by simp [z2w]
theorem zqd {m:Mat} {R C:Nat} (hm:MatP m R C) {v:List Int} (hv:∀ x∈v,0≤x∧x≤m.1-1) (i t:Nat):0≤apT m v C i t∧apT m v C i t≤62500:=by
 have hp:=hm.prime
 have h1:=zjm hm (i*C+t)
 have h2:0≤v.getD t 0∧v.getD t 0≤250:=by
  rw [List.getD_eq_getElem?_getD]
  cases h:v[t]? with
  | none=>exact ⟨by simp,by simp⟩
  | some x=>have:=hv x (List.mem_of_getElem? h); simp only [Option.getD_some]; omega
 unfold apT
 exact ⟨Int.mul_nonneg h1.1 h2.1,Int.le_trans (Int.mul_le_mul h1.2 h2.2 h2.1 (by omega)) (by omega)⟩
theorem z193 {k:Nat} (hk:KK≤k) {m:Mat} {R C:Nat} (hm:MatP m R C) {v:List Int} (hl:v.length=C) (hv:∀ x∈v,0≤x∧x≤m.1-1):zir k m v=some (z2w m v C R):=by
 have hK:=zg
 have hL:=z1p
 have hR:=hm.r32
 have hC:=hm.c32
 unfold zir
 rw [hm.rows]
 refine z1s (S:=List Int) (L:=fun n i q=>zgx k n v (R:Int) i q m (fun q_4=>some q_4)) (b:=R) (st:=z2w m v C) ?_ ?_ (n:=k) (by omega)
 ·intro n i hi
  have hlt:(i:Int)<(R:Int):=by omega
  have hw:=zd (i:=i) (by omega)
  have hrow:z8a m (i:Int)=some (z4x m.2.2.2 C i):=by
   have h1:(i+1)*C≤R*C:=Nat.mul_le_mul_right _ hi
   have h2:R*C≤32*32:=Nat.mul_le_mul hR hC
   have h3:(i+1)*C=i*C+C:=Nat.succ_mul _ _
   unfold z8a
   rw [hm.cols,z6p (by omega) hC,hw,z6p (i:=i+1) (by omega) hC,if_pos ⟨by omega,by omega,by rw [hm.len]; omega⟩,Int.toNat_natCast,Int.toNat_natCast,show (i+1)*C-i*C=C by omega]
   rfl
  have hd:=z184 hk (K:=C) (zh1 hm.len hi) hl hC hm.prime (f:=apT m v C i) (fun t=>zqd hm hv i t) (fun t x y hx hy=>by
   have h1:=zu1 hm i t hx
   rw [h1]
   unfold apT
   rw [List.getD_eq_getElem?_getD (l:=v),hy]; rfl)
  have hlim:((z2w m v C i).length+1)*8≤LIM:=by rw [zjw]; omega
  simp only [zgx,hlt,decide_true,if_true,hrow,hd,Option.bind_some,List.length_singleton,hlim,hw,z192]
 ·intro n
  simp only [zgx,Int.lt_irrefl,decide_false,Bool.false_eq_true,if_false]
theorem z194 {k:Nat} (hk:KK≤k) {m:Mat} {R C:Nat} (hm:MatP m R C) {v:List Int} (hl:v.length=C) (hv:∀ x∈v,0≤x∧x≤m.1-1):zj0 k m v=some (z2w m v C R):=by
 have hK:=zg
 have hL:=z1p
 have hR:=hm.r32
 have hC:=hm.c32
 have hp:=hm.prime
 unfold zj0
 have row:∀ (i:Nat),i<R→∀ (q:List Int) (E:Mat→List Int→Int→Int→List Int→Option (List Int)),zcq k k m v (i:Int) 0 0 q E=E m v (i:Int) (z2a (apT m v C i) C) q:=by
  intro i hi q E
  refine z1s (S:=Int) (L:=fun n t z=>zcq k n m v (i:Int) z t q E) (b:=C) (st:=z2a (apT m v C i)) ?_ ?_ (n:=k) (by omega)
  ·intro n t ht
   have hlt:(t:Int)<m.2.2.1:=by rw [hm.cols]; omega
   have hw:=zd (i:=t) (by omega)
   have hgv:v[t]?=some (v.getD t 0):=by rw [List.getD_eq_getElem?_getD,List.getElem?_eq_getElem (by omega)]; rfl
   have hb:=zqd hm hv i t
   have hsum:=zjl (zqd hm hv i) t
   have w1:z6 (m.2.2.2.getD (i*C+t) 0*v.getD t 0)=apT m v C i t:=zf (x:=apT m v C i t) (by omega) (by omega)
   have w2:z6 (z2a (apT m v C i) t+apT m v C i t)=z2a (apT m v C i) t+apT m v C i t:=zf (by omega) (by omega)
   simp only [zcq,hlt,decide_true,if_true]
   simp only [hm.cols,zuk hm hi ht,zh3 hm hi ht,Int.natCast_nonneg,if_true,Int.toNat_natCast,Option.bind_some,hgv,w1,w2,hw,z2a]
  ·intro n
   have hlt:¬ (C:Int)<m.2.2.1:=by rw [hm.cols]; omega
   simp only [zcq,hlt,decide_false,Bool.false_eq_true,if_false]
 refine z1s (S:=List Int) (L:=fun n i q=>zg4 k n m v i q (fun q_7=>some q_7)) (b:=R) (st:=z2w m v C) ?_ ?_ (n:=k) (by omega)
 ·intro n i hi
  have hlt:(i:Int)<m.2.1:=by rw [hm.rows]; omega
  have hw:=zd (i:=i) (by omega)
  have hlim:((z2w m v C i).length+1)*8≤LIM:=by rw [zjw]; omega
  have hp0:¬ m.1=0:=by omega
  have hsum:=zjl (zqd hm hv i) C
  have ht:Int.tmod (z2a (apT m v C i) C) m.1=z2a (apT m v C i) C % m.1:=Int.tmod_eq_emod_of_nonneg hsum.1
  simp only [zg4,hlt,decide_true,if_true,row i hi,hp0,if_false,List.length_singleton,hlim,hw,ht,z192]
 ·intro n
  have hlt:¬ (R:Int)<m.2.1:=by rw [hm.rows]; omega
  simp only [zg4,hlt,decide_false,Bool.false_eq_true,if_false]
def nzB (v:List Int):Bool:=v.any fun x=>!decide (x=0)
theorem z195 {k:Nat} (hk:KK≤k) {v:List Int} (hl:v.length≤1048576):zio k v=some (!nzB v):=by
 have hK:=zg
 unfold zio ztk ztj nzB
 rw [zap (L:=fun n i=>zgy k n v () (v.length:Int) i (some (-1))) (p:=fun x=>!decide (x=0)) v ?_ ?_ (n:=k) (by omega)]
 ·rw [Option.bind_some,Option.bind_some,zde]
 ·intro n i x hi hlt
  have hw:=zd (i:=i) (by omega)
  simp only [zgy,zti,hlt,decide_true,if_true,Int.natCast_nonneg,Int.toNat_natCast,hi,Option.bind_some,hw]
 ·intro n
  simp [zgy]
theorem z196 {k:Nat} (hk:KK≤k) {v:List Int} (hl:v.length≤1048576):zj1 k v=some (!nzB v):=by
 have hK:=zg
 unfold zj1
 have:=z4d (L:=fun m i=>zg5 k m v i (some true)) (b:=v.length) (p:=fun i=>decide (v.getD i 0=0)) (r:=some false) (e:=some true) ?_ ?_ (n:=k) (by omega)
 ·rw [this]
  have e:(List.range v.length).all (fun i=>decide (v.getD i 0=0))=!nzB v:=by
   unfold nzB
   rw [Bool.eq_iff_iff,List.all_eq_true,Bool.not_eq_true',List.any_eq_false]
   constructor
   ·intro h x hx
    obtain ⟨i,hi⟩:=List.getElem?_of_mem hx
    have hlt:=(List.getElem?_eq_some_iff.1 hi).1
    have:=h i (List.mem_range.2 hlt)
    rw [List.getD_eq_getElem?_getD,hi] at this
    simpa using this
   ·intro h i hi
    have hlt:=List.mem_range.1 hi
    have:=h v[i] (List.getElem_mem hlt)
    rw [List.getD_eq_getElem?_getD,List.getElem?_eq_getElem hlt]
    simpa using this
  rw [e]
  cases nzB v <;> rfl
 ·intro m i hi
  have hlt:(i:Int)<(v.length:Int):=by omega
  have hw:=zd (i:=i) (by omega)
  have hg:v[i]?=some (v.getD i 0):=by rw [List.getD_eq_getElem?_getD,List.getElem?_eq_getElem hi]; rfl
  simp only [zg5,hlt,decide_true,if_true,Int.natCast_nonneg,Int.toNat_natCast,hg,Option.bind_some,hw]
  cases decide (v.getD i 0=0) <;> simp
 ·intro m
  simp only [zg5,Int.lt_irrefl,decide_false,Bool.false_eq_true,if_false]
def slV (s:She) (V:List Int) (j:Nat):List Int:=(V.drop (oN s j)).take (stN s j)
def z52 (s:She) (V:List Int) (n:Nat):List Int:=(((ofC s.1 1).take n).filter fun j=>nzB (slV s V j)).map fun (j:Nat)=>(j:Int)
theorem z197 (s:She) (V:List Int) {n j:Nat} (h:(ofC s.1 1)[n]?=some j):z52 s V (n+1)=if nzB (slV s V j)=true then z52 s V n++[(j:Int)] else z52 s V n:=by
 unfold z52
 rw [List.take_add_one,h,List.filter_append,List.map_append]
 cases e:nzB (slV s V j) <;> simp [e]
theorem zul (s:She) (V:List Int) (n:Nat):(z52 s V n).length≤n:=by
 unfold z52
 rw [List.length_map]
 exact Nat.le_trans (List.length_filter_le ..) (by rw [List.length_take]; omega)
theorem z1re {s:She} {V:List Int} {n:Nat} {y:Int} (h:y∈z52 s V n):0≤y∧y.toNat<s.1.length:=by
 unfold z52 at h
 obtain ⟨j,hj,rfl⟩:=List.mem_map.1 h
 have:=z8h (List.mem_of_mem_take (List.mem_filter.1 hj).1)
 exact ⟨by omega,by omega⟩
theorem z198 {k:Nat} (hk:KK≤k) {s:She} (hs:smallSh s) (h:zy k s=true) {j:Nat} (hj:j∈ofC s.1 1) {R:Nat} (hR:zh s.2.2.1 (ofC s.1 1)=(R:Int)) (hR2:R≤32):∃ t,s.1[j]?=some t∧s.2.2.1[j]?=some (stN s j:Int)∧z6 ((oN s j:Int)+(stN s j:Int))=((oN s j+stN s j:Nat):Int)∧oN s j+stN s j≤R:=by
 obtain ⟨hCx,hp,hS⟩:=z1a hk h
 obtain ⟨t,ht,hl⟩:=z18x hj
 obtain ⟨o1,o2,o3⟩:=zdr hS ht (d:=1) hl
 obtain ⟨s1,_,_⟩:=z7i hS (z8h hj)
 rw [o2] at s1
 exact ⟨t,ht,s1,by rw [zf (by omega) (by omega)]; omega,by omega⟩
theorem z1rf {k:Nat} (hk:KK≤k) {s:She} (hs:smallSh s) (h:zy k s=true) {R C:Nat} (hR:zh s.2.2.1 (ofC s.1 1)=(R:Int)) (hC:zh s.2.2.1 (ofC s.1 0)=(C:Int)) (hR2:R≤32) (hC2:C≤32) {v:List Int} (hl:v.length=C) (hv:∀ x∈v,0≤x∧x≤s.2.1-1):zj3 k s v=some (z52 s (z2w (z36 s R C) v C R) (ofC s.1 1).length):=by
 have hK:=zg
 have hLI:=z1p
 obtain ⟨hCx,hp,hS⟩:=z1a hk h
 have hcl:=hCx.len
 have hol:=z9n s.1 1
 have ha:=z194 hk (z191 hk hs h hR hC hR2 hC2) hl hv
 unfold zj3
 rw [z1rd hk hs h hR hC hR2 hC2]
 simp only [Option.bind_some]
 rw [show ((z36 s R C).1,(z36 s R C).2.1,(z36 s R C).2.2.1,(z36 s R C).2.2.2)=z36 s R C from rfl,ha]
 simp only [Option.bind_some,zjk hk (z2k hCx) (show -1000≤(1:Int)∧(1:Int)≤1000 by omega)]
 have hVl:=zjw (z36 s R C) v C R
 generalize z2w (z36 s R C) v C R=V at *
 refine z1s (S:=List Int) (L:=fun n i q=>zcv k n s i V ((ofC s.1 1).map fun i:Nat=>(i:Int)) q (fun q_13=>some q_13)) (b:=(ofC s.1 1).length) (st:=z52 s V) ?_ ?_ (n:=k) (by omega)
 ·intro m n hn
  have hlt:(n:Int)<((ofC s.1 1).length:Int):=by omega
  have hw:=zd (i:=n) (by omega)
  have hg:(ofC s.1 1)[n]?=some ((ofC s.1 1).getD n 0):=by rw [List.getD_eq_getElem?_getD,List.getElem?_eq_getElem hn]; rfl
  have hmem:(ofC s.1 1).getD n 0∈ofC s.1 1:=List.mem_of_getElem? hg
  have hF:((ofC s.1 1).map fun i:Nat=>(i:Int))[n]?=some (((ofC s.1 1).getD n 0:Nat):Int):=by rw [List.getElem?_map,hg]; rfl
  have hstep:=z197 s V hg
  have hlen:=zul s V n
  generalize (ofC s.1 1).getD n 0=j at *
  obtain ⟨t,ht,hst,hws,hb⟩:=z198 hk hs h hmem hR hR2
  have hat:=zjs hk hCx hS ht
  have hbd:(0:Int)≤(oN s j:Int)∧(oN s j:Int)≤((oN s j+stN s j:Nat):Int)∧((oN s j+stN s j:Nat):Int)≤(V.length:Int):=⟨by omega,by omega,by omega⟩
  have hsl:(V.drop (oN s j)).take (oN s j+stN s j-oN s j)=slV s V j:=by unfold slV; rw [Nat.add_sub_cancel_left]
  have hnull:=z196 hk (v:=slV s V j) (by unfold slV; rw [List.length_take,List.length_drop]; omega)
  have hlim:((z52 s V n).length+1)*8≤LIM:=by omega
  simp only [zcv,hlt,decide_true,if_true,Int.natCast_nonneg,Int.toNat_natCast,List.length_map,hn,and_self,hF,Option.bind_some,hat,hst,hws,hbd,hsl,hnull,hw,hstep,List.length_singleton,hlim,Bool.not_not]
  cases nzB (slV s V j) <;> simp
 ·intro m
  simp only [zcv,List.length_map,Int.lt_irrefl,decide_false,Bool.false_eq_true,if_false]
theorem z1rg {k:Nat} (hk:KK≤k) {s:She} (hs:smallSh s) (h:zy k s=true) {R C:Nat} (hR:zh s.2.2.1 (ofC s.1 1)=(R:Int)) (hC:zh s.2.2.1 (ofC s.1 0)=(C:Int)) (hR2:R≤32) (hC2:C≤32) {v:List Int} (hl:v.length=C) (hv:∀ x∈v,0≤x∧x≤s.2.1-1):ziq k s v=some (z52 s (z2w (z36 s R C) v C R) (ofC s.1 1).length):=by
 have hK:=zg
 have hLI:=z1p
 obtain ⟨hCx,hp,hS⟩:=z1a hk h
 have hcl:=hCx.len
 have hol:=z9n s.1 1
 have ha:=z193 hk (z191 hk hs h hR hC hR2 hC2) hl hv
 unfold ziq
 rw [z1rc hk hs h hR hC hR2 hC2]
 simp only [Option.bind_some]
 rw [show ((z36 s R C).1,(z36 s R C).2.1,(z36 s R C).2.2.1,(z36 s R C).2.2.2)=z36 s R C from rfl,ha]
 simp only [Option.bind_some,zh2 hk (z2k hCx) (show -1000≤(1:Int)∧(1:Int)≤1000 by omega),List.length_map]
 have hVl:=zjw (z36 s R C) v C R
 generalize z2w (z36 s R C) v C R=V at *
 refine z1s (S:=List Int) (L:=fun n i q=>zc9 k n ((ofC s.1 1).length:Int) i V q ((ofC s.1 1).map fun i:Nat=>(i:Int)) s (fun q_10=>some q_10)) (b:=(ofC s.1 1).length) (st:=z52 s V) ?_ ?_ (n:=k) (by omega)
 ·intro m n hn
  have hlt:(n:Int)<((ofC s.1 1).length:Int):=by omega
  have hw:=zd (i:=n) (by omega)
  have hg:(ofC s.1 1)[n]?=some ((ofC s.1 1).getD n 0):=by rw [List.getD_eq_getElem?_getD,List.getElem?_eq_getElem hn]; rfl
  have hmem:(ofC s.1 1).getD n 0∈ofC s.1 1:=List.mem_of_getElem? hg
  have hF:((ofC s.1 1).map fun i:Nat=>(i:Int))[n]?=some (((ofC s.1 1).getD n 0:Nat):Int):=by rw [List.getElem?_map,hg]; rfl
  have hstep:=z197 s V hg
  have hlen:=zul s V n
  generalize (ofC s.1 1).getD n 0=j at *
  obtain ⟨t,ht,hst,hws,hb⟩:=z198 hk hs h hmem hR hR2
  have hat:=zjt hk hCx hS ht
  have hbd:(0:Int)≤(oN s j:Int)∧(oN s j:Int)≤((oN s j+stN s j:Nat):Int)∧((oN s j+stN s j:Nat):Int)≤(V.length:Int):=⟨by omega,by omega,by omega⟩
  have hsl:(V.drop (oN s j)).take (oN s j+stN s j-oN s j)=slV s V j:=by unfold slV; rw [Nat.add_sub_cancel_left]
  have hsll:(slV s V j).length≤1048576:=by unfold slV; rw [List.length_take,List.length_drop]; omega
  have hnull:=z195 hk (v:=slV s V j) hsll
  have hlim:((z52 s V n).length+1)*8≤LIM:=by omega
  have hpart:zmr k s V (j:Int)=some (slV s V j):=by
   unfold zmr
   simp only [hat,Option.bind_some,Int.natCast_nonneg,if_true,Int.toNat_natCast,hst,hws,hbd,and_self,hsl,z16v hsll]
  simp only [zc9,hlt,decide_true,if_true,Int.natCast_nonneg,Int.toNat_natCast,List.length_map,hn,and_self,hF,Option.bind_some,hpart,hnull,hw,hstep,List.length_singleton,hlim,Bool.not_not]
  cases nzB (slV s V j) <;> simp
 ·intro m
  simp only [zc9,Int.lt_irrefl,decide_false,Bool.false_eq_true,if_false]
abbrev Pha:=Int×Int×List Edg
def z8l (x:Pha) (i:Nat):Bool:=match x.2.2[i]? with
 | some a=>!decide (a.1<0)&&(!decide (a.2.1≤a.1)&&(!decide (x.1≤a.2.1)&&(decide (0≤a.2.2∧a.2.2≤z6 (x.2.1-1))&&zh7 x.2.2 i a)))
 | none=>false
def z3x (x:Pha):Bool:=decide (1≤x.1∧x.1≤12)&&(decide (2≤x.2.1∧x.2.1≤360)&&((List.range x.2.2.length).all (z8l x)&&decide (x.2.2.length≤24)))
theorem z1rh {k:Nat} (hk:KK≤k) {x:Pha} (hn:x.2.2.length≤1048576):znk k x=some (z3x x):=by
 have hK:=zg
 have e2:decide ((x.2.2.length:Int)≤24)=decide (x.2.2.length≤24):=decide_eq_decide.2 (by omega)
 unfold znk z3x
 simp only [z7e,Option.bind_some]
 by_cases c0:1≤x.1∧x.1≤12
 case neg=>simp [c0]
 by_cases c00:2≤x.2.1∧x.2.1≤360
 case neg=>simp [c0,c00]
 have hl:z9c k k x 0 (fun x_10=>some (decide ((List.length x_10.2.2:Int)≤24)))=if (List.range x.2.2.length).all (z8l x)=true then some (decide ((x.2.2.length:Int)≤24)) else some false:=by
  refine z4d (L:=fun m i=>z9c k m x i (fun x_10=>some (decide ((List.length x_10.2.2:Int)≤24)))) (b:=x.2.2.length) (p:=z8l x) (r:=some false) ?_ ?_ (n:=k) (by omega)
  ·intro m i hi
   have hlt:(i:Int)<(x.2.2.length:Int):=by omega
   have hw:=zd (i:=i) (by omega)
   have hg:x.2.2[i]?=some x.2.2[i]:=List.getElem?_eq_getElem hi
   have wn:z6 (x.1-1)=x.1-1:=zf (by omega) (by omega)
   simp only [z9c,hlt,decide_true,if_true,Int.natCast_nonneg,Int.toNat_natCast,hg,Option.bind_some,hw,z7e,z8l,zh7,wn]
   generalize x.2.2[i]=a
   by_cases c1:0≤a.1∧a.1≤x.1-1
   case neg =>
    rw [decide_eq_false c1,if_pos (by simp),if_neg]
    intro h
    simp only [Bool.and_eq_true,Bool.not_eq_true',decide_eq_false_iff_not] at h
    omega
   have wa:z6 (a.1+1)=a.1+1:=zf (by omega) (by omega)
   rw [wa,decide_eq_true c1]
   simp only [Bool.not_true,Bool.false_eq_true,if_false]
   by_cases c2:a.1+1≤a.2.1∧a.2.1≤x.1-1
   case neg =>
    rw [decide_eq_false c2,if_pos (by simp),if_neg]
    intro h
    simp only [Bool.and_eq_true,Bool.not_eq_true',decide_eq_false_iff_not] at h
    omega
   rw [decide_eq_true c2,decide_eq_false (show ¬ a.1<0 by omega),decide_eq_false (show ¬ a.2.1≤a.1 by omega),decide_eq_false (show ¬ x.1≤a.2.1 by omega)]
   simp only [Bool.not_true,Bool.not_false,Bool.false_eq_true,if_false,Bool.true_and]
   by_cases c4:0≤a.2.2∧a.2.2≤z6 (x.2.1-1)
   case neg=>simp [c4]
   rw [decide_eq_true c4]
   simp only [Bool.not_true,Bool.not_false,Bool.false_eq_true,if_false,Bool.true_and]
   by_cases h0:0<i
   ·have h0':(0:Int)<(i:Int):=by omega
    have hw1:z6 ((i:Int)-1)=((i-1:Nat):Int):=by rw [zf (by omega) (by omega)]; omega
    have hg1:x.2.2[i-1]?=some x.2.2[i-1]:=List.getElem?_eq_getElem (by omega)
    simp only [h0',h0,decide_true,if_true,hw1,Int.natCast_nonneg,Int.toNat_natCast,hg1,Option.bind_some]
    generalize x.2.2[i-1]=t
    unfold zdo
    by_cases d1:a.1<t.1
    ·have:¬ (t.1<a.1∨t.1=a.1∧t.2.1<a.2.1):=by omega
     rw [decide_eq_true d1,if_pos rfl,decide_eq_false this,if_neg (by simp)]
    ·rw [decide_eq_false d1,if_neg (by simp)]
     by_cases d2:t.1=a.1
     ·rw [decide_eq_true d2,if_pos rfl]
      by_cases d3:a.2.1≤t.2.1
      ·have:¬ (t.1<a.1∨t.1=a.1∧t.2.1<a.2.1):=by omega
       rw [decide_eq_true d3,if_pos rfl,decide_eq_false this,if_neg (by simp)]
      ·have:(t.1<a.1∨t.1=a.1∧t.2.1<a.2.1):=by omega
       rw [decide_eq_false d3,if_neg (by simp),decide_eq_true this,if_pos rfl]
     ·have:(t.1<a.1∨t.1=a.1∧t.2.1<a.2.1):=by omega
      rw [decide_eq_false d2,if_neg (by simp),decide_eq_true this,if_pos rfl]
   ·have h0':¬ (0:Int)<(i:Int):=by omega
    simp [h0,h0']
  ·intro m
   simp only [z9c,Int.lt_irrefl,decide_false,Bool.false_eq_true,if_false]
 rw [hl,e2,decide_eq_true c0,decide_eq_true c00]
 cases (List.range x.2.2.length).all (z8l x) <;> simp
theorem z1ri {k:Nat} (hk:KK≤k) {x:Pha} (hn:x.2.2.length≤1048576):zoy k x=some (z3x x):=by
 have hK:=zg
 have e2:decide ((x.2.2.length:Int)≤24)=decide (x.2.2.length≤24):=decide_eq_decide.2 (by omega)
 have hE:((z47 x.1 1 12).bind fun r_9=>(if r_9=true then (z47 x.2.1 2 360).bind fun r_10=>(if r_10=true then some (decide ((List.length x.2.2:Int)≤24)) else some false) else some false))=some (decide (1≤x.1∧x.1≤12)&&(decide (2≤x.2.1∧x.2.1≤360)&&decide (x.2.2.length≤24))):=by
  simp only [z6l,Option.bind_some,e2]
  by_cases c1:1≤x.1∧x.1≤12
  case neg=>simp [c1]
  by_cases c2:2≤x.2.1∧x.2.1≤360
  case neg=>simp [c1,c2]
  simp [c1,c2]
 unfold zoy
 have hl:∀ E:Pha→Option Bool,zb2 k k x.2.2 (x.2.2.length:Int) 0 x E=if (List.range x.2.2.length).all (z8l x)=true then E x else some false:=by
  intro E
  refine z4d (L:=fun m i=>zb2 k m x.2.2 (x.2.2.length:Int) i x E) (b:=x.2.2.length) (p:=z8l x) (r:=some false) ?_ ?_ (n:=k) (by omega)
  ·intro m i hi
   have hlt:(i:Int)<(x.2.2.length:Int):=by omega
   have hw:=zd (i:=i) (by omega)
   have hg:x.2.2[i]?=some x.2.2[i]:=List.getElem?_eq_getElem hi
   simp only [zb2,z68,hlt,decide_true,if_true,Int.natCast_nonneg,Int.toNat_natCast,hg,Option.bind_some,hw,z6l,z8l,zh7]
   generalize x.2.2[i]=a
   by_cases c1:a.1<0
   case pos=>simp [c1]
   by_cases c2:a.2.1≤a.1
   case pos=>simp [c1,c2]
   by_cases c3:x.1≤a.2.1
   case pos=>simp [c1,c2,c3]
   by_cases c4:0≤a.2.2∧a.2.2≤z6 (x.2.1-1)
   case neg=>simp [c1,c2,c3,c4]
   rw [decide_eq_false c1,decide_eq_false c2,decide_eq_false c3,decide_eq_true c4]
   simp only [Bool.not_true,Bool.not_false,Bool.false_eq_true,if_false,Bool.true_and]
   by_cases h0:0<i
   ·have h0':(0:Int)<(i:Int):=by omega
    have hw1:z6 ((i:Int)-1)=((i-1:Nat):Int):=by rw [zf (by omega) (by omega)]; omega
    have hg1:x.2.2[i-1]?=some x.2.2[i-1]:=List.getElem?_eq_getElem (by omega)
    simp only [h0',h0,decide_true,if_true,hw1,Int.natCast_nonneg,Int.toNat_natCast,hg1,Option.bind_some,ztt,ztu hk,z18j]
    generalize x.2.2[i-1]=t
    cases zdo t a <;> simp
   ·have h0':¬ (0:Int)<(i:Int):=by omega
    simp [h0,h0']
  ·intro m
   simp only [zb2,Int.lt_irrefl,decide_false,Bool.false_eq_true,if_false]
 rw [hl,hE]
 unfold z3x
 cases (List.range x.2.2.length).all (z8l x) <;> simp
abbrev Wrk:=She×Int×List Int×List Int×Net×List Int×List Int×Pha×List Int
structure smallW (w:Wrk):Prop where
 sh:smallSh w.1
 cl:w.2.2.1.length≤1048576
 rd:w.2.2.2.1.length≤1048576
 net:w.2.2.2.2.1.2.2.2.length≤1048576
 pha:w.2.2.2.2.2.2.2.1.2.2.length≤1048576
 ang:w.2.2.2.2.2.2.2.2.length≤1048576
noncomputable def z7m (k:Nat) (w:Wrk):Bool:=zy k w.1&&(decide (0≤w.2.1∧w.2.1≤3)&&(z27 w.2.2.1 (zh w.1.2.2.1 (ofC w.1.1 w.2.1)) w.1.2.1&&(z27 w.2.2.2.1 (zh w.1.2.2.1 (ofC w.1.1 0)) w.1.2.1&&(z2s w.2.2.2.2.1&&(z3x w.2.2.2.2.2.2.2.1&&z27 w.2.2.2.2.2.2.2.2 w.2.2.2.2.2.2.2.1.1 w.2.2.2.2.2.2.2.1.2.1)))))
theorem z199 {x:Pha} (h:z3x x=true):(1≤x.1∧x.1≤12)∧(2≤x.2.1∧x.2.1≤360):=by
 unfold z3x at h
 simp only [Bool.and_eq_true,decide_eq_true_eq] at h
 exact ⟨h.1,h.2.1⟩
theorem z1rj {k:Nat} (hk:KK≤k) {w:Wrk} (hs:smallW w):znl k w=some (z7m k w):=by
 unfold znl z7m zsi zsj
 rw [z1pv hk hs.sh]
 cases h1:zy k w.1 with
 | false=>simp
 | true =>
  obtain ⟨hC,hp,hS⟩:=z1a hk h1
  have hsc:=z2k hC
  simp only [Option.bind_some,Bool.not_true,Bool.false_eq_true,if_false,z7e,Bool.true_and]
  by_cases c2:0≤w.2.1∧w.2.1≤3
  case neg=>simp [c2]
  have hp' : -1000000≤w.1.2.1∧w.1.2.1≤1000000:=by omega
  have hc1:z7b k w.2.2.1 (zh w.1.2.2.1 (ofC w.1.1 w.2.1)) w.1.2.1=some (z27 w.2.2.1 (zh w.1.2.2.1 (ofC w.1.1 w.2.1)) w.1.2.1):=zjc hk hs.cl _ hp'
  have hc2:z7b k w.2.2.2.1 (zh w.1.2.2.1 (ofC w.1.1 0)) w.1.2.1=some (z27 w.2.2.2.1 (zh w.1.2.2.1 (ofC w.1.1 0)) w.1.2.1):=zjc hk hs.rd _ hp'
  rw [decide_eq_true c2,z9p hk hsc hS (by omega),z9p hk hsc hS (by omega)]
  simp only [Option.bind_some,Bool.not_true,Bool.false_eq_true,if_false,hc1,hc2,z1qj hk hs.net,z1rh hk hs.pha,Bool.true_and]
  cases z27 w.2.2.1 (zh w.1.2.2.1 (ofC w.1.1 w.2.1)) w.1.2.1 with
  | false=>simp
  | true =>
  cases z27 w.2.2.2.1 (zh w.1.2.2.1 (ofC w.1.1 0)) w.1.2.1 with
  | false=>simp
  | true =>
  cases z2s w.2.2.2.2.1 with
  | false=>simp
  | true =>
  cases h5:z3x w.2.2.2.2.2.2.2.1 with
  | false=>simp
  | true =>
   obtain ⟨g1,g2⟩:=z199 h5
   have hc3:z7b k w.2.2.2.2.2.2.2.2 w.2.2.2.2.2.2.2.1.1 w.2.2.2.2.2.2.2.1.2.1=some (z27 w.2.2.2.2.2.2.2.2 w.2.2.2.2.2.2.2.1.1 w.2.2.2.2.2.2.2.1.2.1):=zjc hk hs.ang _ (by omega)
   simp only [Bool.not_true,Bool.false_eq_true,if_false,if_true,hc3,Option.bind_some,Bool.true_and]
theorem z1rk {k:Nat} (hk:KK≤k) {w:Wrk} (hs:smallW w):zmx k w=some (z7m k w):=by
 unfold zmx z7m zt4 zt5
 rw [z1pw hk hs.sh]
 cases h1:zy k w.1 with
 | false=>simp
 | true =>
  obtain ⟨hC,hp,hS⟩:=z1a hk h1
  have hsc:=z2k hC
  simp only [Option.bind_some,Bool.not_true,Bool.false_eq_true,if_false,z6l,Bool.true_and]
  by_cases c2:0≤w.2.1∧w.2.1≤3
  case neg=>simp [c2]
  have hp' : -1000000≤w.1.2.1∧w.1.2.1≤1000000:=by omega
  rw [decide_eq_true c2,z9q hk hsc hS (by omega),z9q hk hsc hS (by omega)]
  simp only [Option.bind_some,Bool.not_true,Bool.false_eq_true,if_false,zu0 hk hs.cl _ hp',zu0 hk hs.rd _ hp',z1qk hk hs.net,z1ri hk hs.pha,Bool.true_and]
  cases z2s w.2.2.2.2.1 with
  | false=>simp
  | true =>
  cases h5:z3x w.2.2.2.2.2.2.2.1 with
  | false=>simp
  | true =>
  obtain ⟨g1,g2⟩:=z199 h5
  simp only [Bool.not_true,Bool.false_eq_true,if_false,zu0 hk hs.ang w.2.2.2.2.2.2.2.1.1 (p:=w.2.2.2.2.2.2.2.1.2.1) (by omega),Option.bind_some]
  cases z27 w.2.2.1 (zh w.1.2.2.1 (ofC w.1.1 w.2.1)) w.1.2.1 with
  | false=>simp
  | true =>
  cases z27 w.2.2.2.1 (zh w.1.2.2.1 (ofC w.1.1 0)) w.1.2.1 with
  | false=>simp
  | true=>simp
instance dec_Int64S:DecidableEq (List Int):=inferInstance
def zj (a:List Int):Nat:=a.length
theorem zbd {a:List Int} {e0:TypeId} {left:Int} (h0:0≤left) (h1:left≤1048576) (h:InR (.sl e0 (.int .i64)) a):z77 a left=some (if (zj a:Int)≤left then left-(zj a:Int) else -1):=by
 have hl:a.length≤140737488351232:=h.1
 have hs:zj a=a.length:=rfl
 unfold z77
 rw [hs,zf (by omega) (by omega)]
 by_cases c:(a.length:Int)≤left
 ·rw [decide_eq_false (by omega),if_neg (by simp),if_pos c]
 ·rw [decide_eq_true (by omega),if_pos rfl,if_neg c]
instance dec_Int64SS:DecidableEq (List (List Int)):=inferInstance
def z54 (a:List (List Int)):Nat:=a.length+z1h zj a
theorem z1rl {k:Nat} (hk:KK≤k) {a:List (List Int)} {e0 e1:TypeId} {left:Int} (h0:0≤left) (h1:left≤1048576) (h:InR (.sl e0 (.sl e1 (.int .i64))) a):zlu k a left=some (if (z54 a:Int)≤left then left-(z54 a:Int) else -1):=by
 have hl:a.length≤140737488351232:=h.1
 have hs:z54 a=a.length+z1h zj a:=rfl
 have hK:=zg
 unfold zlu
 rw [hs,zf (by omega) (by omega)]
 by_cases c:(a.length:Int)≤left
 ·rw [decide_eq_false (by omega),if_neg (by simp)]
  refine Eq.trans (z18k (L:=fun n i r=>zf2 k n a r i fun r=>some r) (s:=zj) a ?_ ?_ (n:=k) (by omega) (r:=left-(a.length:Int)) (by omega) (by omega)) ?_
  ·intro n i x r hi hlt hm r0 r1
   have hw:=zd (i:=i) (by omega)
   have hx:=zbd (a:=x) r0 r1 (h.2 x hm)
   simp only [zf2,hlt,decide_true,if_true,Int.natCast_nonneg,Int.toNat_natCast,hi,Option.bind_some,hw,hx]
   by_cases c2:(zj x:Int)≤r
   ·rw [if_pos c2,decide_eq_false (by omega),if_neg (by simp),if_pos c2]
   ·rw [if_neg c2,decide_eq_true (by omega),if_pos rfl,if_neg c2]
  ·intro n r
   simp [zf2]
  ·by_cases c2:(z1h zj a:Int)≤left-(a.length:Int)
   ·rw [if_pos c2,if_pos (by omega)]; congr 1; omega
   ·rw [if_neg c2,if_neg (by omega)]
 ·rw [decide_eq_true (by omega),if_pos rfl,if_neg (by omega)]
instance dec_Complex:DecidableEq (List (List Int)):=inferInstance
def z55 (a:List (List Int)):Nat:=(z54 a)
theorem z1rm {k:Nat} (hk:KK≤k) {a:List (List Int)} {e0 e1:TypeId} {left:Int} (h0:0≤left) (h1:left≤1048576) (h:InR (.st (.sl e0 (.sl e1 (.int .i64)))) a):zlv k a left=some (if (z55 a:Int)≤left then left-(z55 a:Int) else -1):=by
 have hs:z55 a=(z54 a):=rfl
 unfold zlv
 rw [hs]
 have q0:=z1rl hk (a:=a) (left:=left) (by omega) (by omega) h
 rw [q0]
 by_cases c0:((z54 a):Int)≤left
 case neg=>rw [if_neg c0]; simp only [Option.bind_some]; rw [decide_eq_true (by omega),if_pos rfl]
 rw [if_pos c0]; simp only [Option.bind_some]
 rw [decide_eq_false (by omega),if_neg (by simp)]
instance dec_Matrix_2:DecidableEq (Int×List Int):=inferInstance
instance dec_Matrix_1:DecidableEq (Int×Int×List Int):=inferInstance
instance dec_Matrix:DecidableEq (Int×Int×Int×List Int):=inferInstance
def z3y (a:Int×Int×Int×List Int):Nat:=(zj (a.2.2.2))
theorem z1rn {a:Int×Int×Int×List Int} {e0:TypeId} {left:Int} (h0:0≤left) (h1:left≤1048576) (h:InR (.st (.pr (.int .i64) (.pr (.int .i64) (.pr (.int .i64) (.sl e0 (.int .i64)))))) a):zlw a left=some (if (z3y a:Int)≤left then left-(z3y a:Int) else -1):=by
 have hs:z3y a=(zj (a.2.2.2)):=rfl
 unfold zlw
 rw [hs]
 have q0:=zbd (a:=a.2.2.2) (left:=left) (by omega) (by omega) h.2.2.2
 rw [q0]
 by_cases c0:((zj (a.2.2.2)):Int)≤left
 case neg=>rw [if_neg c0]; simp only [Option.bind_some]; rw [decide_eq_true (by omega),if_pos rfl]
 rw [if_pos c0]; simp only [Option.bind_some]
 rw [decide_eq_false (by omega),if_neg (by simp)]
instance dec_MatrixS:DecidableEq (List (Int×Int×Int×List Int)):=inferInstance
def z56 (a:List (Int×Int×Int×List Int)):Nat:=a.length+z1h z3y a
theorem z1ro {k:Nat} (hk:KK≤k) {a:List (Int×Int×Int×List Int)} {e0 e1:TypeId} {left:Int} (h0:0≤left) (h1:left≤1048576) (h:InR (.sl e0 (.st (.pr (.int .i64) (.pr (.int .i64) (.pr (.int .i64) (.sl e1 (.int .i64))))))) a):zlx k a left=some (if (z56 a:Int)≤left then left-(z56 a:Int) else -1):=by
 have hl:a.length≤140737488351232:=h.1
 have hs:z56 a=a.length+z1h z3y a:=rfl
 have hK:=zg
 unfold zlx
 rw [hs,zf (by omega) (by omega)]
 by_cases c:(a.length:Int)≤left
 ·rw [decide_eq_false (by omega),if_neg (by simp)]
  refine Eq.trans (z18k (L:=fun n i r=>zf3 k n a r i fun r=>some r) (s:=z3y) a ?_ ?_ (n:=k) (by omega) (r:=left-(a.length:Int)) (by omega) (by omega)) ?_
  ·intro n i x r hi hlt hm r0 r1
   have hw:=zd (i:=i) (by omega)
   have hx:=z1rn (a:=x) r0 r1 (h.2 x hm)
   simp only [zf3,hlt,decide_true,if_true,Int.natCast_nonneg,Int.toNat_natCast,hi,Option.bind_some,hw,hx]
   by_cases c2:(z3y x:Int)≤r
   ·rw [if_pos c2,decide_eq_false (by omega),if_neg (by simp),if_pos c2]
   ·rw [if_neg c2,decide_eq_true (by omega),if_pos rfl,if_neg c2]
  ·intro n r
   simp [zf3]
  ·by_cases c2:(z1h z3y a:Int)≤left-(a.length:Int)
   ·rw [if_pos c2,if_pos (by omega)]; congr 1; omega
   ·rw [if_neg c2,if_neg (by omega)]
 ·rw [decide_eq_true (by omega),if_pos rfl,if_neg (by omega)]
instance dec_Sheaf_2:DecidableEq (List Int×(List (Int×Int×Int×List Int))):=inferInstance
instance dec_Sheaf_1:DecidableEq (Int×List Int×(List (Int×Int×Int×List Int))):=inferInstance
instance dec_Sheaf:DecidableEq (List (List Int)×Int×List Int×(List (Int×Int×Int×List Int))):=inferInstance
def z1r (a:List (List Int)×Int×List Int×(List (Int×Int×Int×List Int))):Nat:=(z55 (a.1))+(zj (a.2.2.1))+(z56 (a.2.2.2))
theorem z1rp {k:Nat} (hk:KK≤k) {a:List (List Int)×Int×List Int×(List (Int×Int×Int×List Int))} {e0 e1 e2 e3 e4:TypeId} {left:Int} (h0:0≤left) (h1:left≤1048576) (h:InR (.st (.pr (.st (.sl e0 (.sl e1 (.int .i64)))) (.pr (.int .i64) (.pr (.sl e2 (.int .i64)) (.sl e3 (.st (.pr (.int .i64) (.pr (.int .i64) (.pr (.int .i64) (.sl e4 (.int .i64))))))))))) a):zly k a left=some (if (z1r a:Int)≤left then left-(z1r a:Int) else -1):=by
 have hs:z1r a=(z55 (a.1))+(zj (a.2.2.1))+(z56 (a.2.2.2)):=rfl
 unfold zly
 rw [hs]
 have q0:=z1rm hk (a:=a.1) (left:=left) (by omega) (by omega) h.1
 rw [q0]
 by_cases c0:((z55 (a.1)):Int)≤left
 case neg=>rw [if_neg c0]; simp only [Option.bind_some]; rw [decide_eq_true (by omega),if_pos rfl,if_neg (by omega)]
 rw [if_pos c0]; simp only [Option.bind_some]
 rw [decide_eq_false (by omega),if_neg (by simp)]
 have q1:=zbd (a:=a.2.2.1) (left:=left-((z55 (a.1)):Int)) (by omega) (by omega) h.2.2.1
 rw [q1]
 by_cases c1:((zj (a.2.2.1)):Int)≤left-((z55 (a.1)):Int)
 case neg=>rw [if_neg c1]; simp only [Option.bind_some]; rw [decide_eq_true (by omega),if_pos rfl,if_neg (by omega)]
 rw [if_pos c1]; simp only [Option.bind_some]
 rw [decide_eq_false (by omega),if_neg (by simp)]
 have q2:=z1ro hk (a:=a.2.2.2) (left:=left-((z55 (a.1)):Int)-((zj (a.2.2.1)):Int)) (by omega) (by omega) h.2.2.2
 rw [q2]
 by_cases c2:((z56 (a.2.2.2)):Int)≤left-((z55 (a.1)):Int)-((zj (a.2.2.1)):Int)
 case neg=>rw [if_neg c2]; simp only [Option.bind_some]; rw [decide_eq_true (by omega),if_pos rfl,if_neg (by omega)]
 rw [if_pos c2]; simp only [Option.bind_some]
 rw [decide_eq_false (by omega),if_neg (by simp)]
 rw [if_pos (by omega)]; congr 1; omega
theorem z1rq {s:She} (h:z1r s≤1048576):smallSh s:=by
 have e:z1r s=s.1.length+z1h List.length s.1+s.2.2.1.length+(s.2.2.2.length+z1h z3y s.2.2.2):=rfl
 refine ⟨⟨by omega,fun x hx=>by have:=zh8 List.length hx; omega⟩,by omega,by omega,fun m hm=>?_⟩
 have h1:=zh8 z3y hm
 have h2:z3y m=m.2.2.2.length:=rfl
 omega
instance dec_ArcS:DecidableEq (List (Int×Int×Int)):=inferInstance
def z5t (a:List (Int×Int×Int)):Nat:=a.length
theorem z1rr {a:List (Int×Int×Int)} {e0:TypeId} {left:Int} (h0:0≤left) (h1:left≤1048576) (h:InR (.sl e0 (.st (.pr (.int .i64) (.pr (.int .i64) (.int .i64))))) a):zlz a left=some (if (z5t a:Int)≤left then left-(z5t a:Int) else -1):=by
 have hl:a.length≤140737488351232:=h.1
 have hs:z5t a=a.length:=rfl
 unfold zlz
 rw [hs,zf (by omega) (by omega)]
 by_cases c:(a.length:Int)≤left
 ·rw [decide_eq_false (by omega),if_neg (by simp),if_pos c]
 ·rw [decide_eq_true (by omega),if_pos rfl,if_neg c]
instance dec_Network_2:DecidableEq (Int×(List (Int×Int×Int))):=inferInstance
instance dec_Network_1:DecidableEq (Int×Int×(List (Int×Int×Int))):=inferInstance
instance dec_Network:DecidableEq (Int×Int×Int×(List (Int×Int×Int))):=inferInstance
def z3m (a:Int×Int×Int×(List (Int×Int×Int))):Nat:=(z5t (a.2.2.2))
theorem z1rs {a:Int×Int×Int×(List (Int×Int×Int))} {e0:TypeId} {left:Int} (h0:0≤left) (h1:left≤1048576) (h:InR (.st (.pr (.int .i64) (.pr (.int .i64) (.pr (.int .i64) (.sl e0 (.st (.pr (.int .i64) (.pr (.int .i64) (.int .i64))))))))) a):zm0 a left=some (if (z3m a:Int)≤left then left-(z3m a:Int) else -1):=by
 have hs:z3m a=(z5t (a.2.2.2)):=rfl
 unfold zm0
 rw [hs]
 have q0:=z1rr (a:=a.2.2.2) (left:=left) (by omega) (by omega) h.2.2.2
 rw [q0]
 by_cases c0:((z5t (a.2.2.2)):Int)≤left
 case neg=>rw [if_neg c0]; simp only [Option.bind_some]; rw [decide_eq_true (by omega),if_pos rfl]
 rw [if_pos c0]; simp only [Option.bind_some]
 rw [decide_eq_false (by omega),if_neg (by simp)]
instance dec_TurnS:DecidableEq (List (Int×Int×Int)):=inferInstance
def z5u (a:List (Int×Int×Int)):Nat:=a.length
theorem z1rt {a:List (Int×Int×Int)} {e0:TypeId} {left:Int} (h0:0≤left) (h1:left≤1048576) (h:InR (.sl e0 (.st (.pr (.int .i64) (.pr (.int .i64) (.int .i64))))) a):zm1 a left=some (if (z5u a:Int)≤left then left-(z5u a:Int) else -1):=by
 have hl:a.length≤140737488351232:=h.1
 have hs:z5u a=a.length:=rfl
 unfold zm1
 rw [hs,zf (by omega) (by omega)]
 by_cases c:(a.length:Int)≤left
 ·rw [decide_eq_false (by omega),if_neg (by simp),if_pos c]
 ·rw [decide_eq_true (by omega),if_pos rfl,if_neg c]
instance dec_Phases_1:DecidableEq (Int×(List (Int×Int×Int))):=inferInstance
instance dec_Phases:DecidableEq (Int×Int×(List (Int×Int×Int))):=inferInstance
def z5v (a:Int×Int×(List (Int×Int×Int))):Nat:=(z5u (a.2.2))
theorem z1ru {a:Int×Int×(List (Int×Int×Int))} {e0:TypeId} {left:Int} (h0:0≤left) (h1:left≤1048576) (h:InR (.st (.pr (.int .i64) (.pr (.int .i64) (.sl e0 (.st (.pr (.int .i64) (.pr (.int .i64) (.int .i64)))))))) a):zm2 a left=some (if (z5v a:Int)≤left then left-(z5v a:Int) else -1):=by
 have hs:z5v a=(z5u (a.2.2)):=rfl
 unfold zm2
 rw [hs]
 have q0:=z1rt (a:=a.2.2) (left:=left) (by omega) (by omega) h.2.2
 rw [q0]
 by_cases c0:((z5u (a.2.2)):Int)≤left
 case neg=>rw [if_neg c0]; simp only [Option.bind_some]; rw [decide_eq_true (by omega),if_pos rfl]
 rw [if_pos c0]; simp only [Option.bind_some]
 rw [decide_eq_false (by omega),if_neg (by simp)]
instance dec_Work_7:DecidableEq ((Int×Int×(List (Int×Int×Int)))×List Int):=inferInstance
instance dec_Work_6:DecidableEq (List Int×(Int×Int×(List (Int×Int×Int)))×List Int):=inferInstance
instance dec_Work_5:DecidableEq (List Int×List Int×(Int×Int×(List (Int×Int×Int)))×List Int):=inferInstance
instance dec_Work_4:DecidableEq ((Int×Int×Int×(List (Int×Int×Int)))×List Int×List Int×(Int×Int×(List (Int×Int×Int)))×List Int):=inferInstance
instance dec_Work_3:DecidableEq (List Int×(Int×Int×Int×(List (Int×Int×Int)))×List Int×List Int×(Int×Int×(List (Int×Int×Int)))×List Int):=inferInstance
instance dec_Work_2:DecidableEq (List Int×List Int×(Int×Int×Int×(List (Int×Int×Int)))×List Int×List Int×(Int×Int×(List (Int×Int×Int)))×List Int):=inferInstance
instance dec_Work_1:DecidableEq (Int×List Int×List Int×(Int×Int×Int×(List (Int×Int×Int)))×List Int×List Int×(Int×Int×(List (Int×Int×Int)))×List Int):=inferInstance
instance dec_Work:DecidableEq ((List (List Int)×Int×List Int×(List (Int×Int×Int×List Int)))×Int×List Int×List Int×(Int×Int×Int×(List (Int×Int×Int)))×List Int×List Int×(Int×Int×(List (Int×Int×Int)))×List Int):=inferInstance
def z2g (a:(List (List Int)×Int×List Int×(List (Int×Int×Int×List Int)))×Int×List Int×List Int×(Int×Int×Int×(List (Int×Int×Int)))×List Int×List Int×(Int×Int×(List (Int×Int×Int)))×List Int):Nat:=(z1r (a.1))+(zj (a.2.2.1))+(zj (a.2.2.2.1))+(z3m (a.2.2.2.2.1))+(zj (a.2.2.2.2.2.1))+(zj (a.2.2.2.2.2.2.1))+(z5v (a.2.2.2.2.2.2.2.1))+(zj (a.2.2.2.2.2.2.2.2))
theorem z1rv {k:Nat} (hk:KK≤k) {a:(List (List Int)×Int×List Int×(List (Int×Int×Int×List Int)))×Int×List Int×List Int×(Int×Int×Int×(List (Int×Int×Int)))×List Int×List Int×(Int×Int×(List (Int×Int×Int)))×List Int} {e0 e1 e2 e3 e4 e5 e6 e7 e8 e9 e10 e11:TypeId} {left:Int} (h0:0≤left) (h1:left≤1048576) (h:InR (.st (.pr (.st (.pr (.st (.sl e0 (.sl e1 (.int .i64)))) (.pr (.int .i64) (.pr (.sl e2 (.int .i64)) (.sl e3 (.st (.pr (.int .i64) (.pr (.int .i64) (.pr (.int .i64) (.sl e4 (.int .i64))))))))))) (.pr (.int .i64) (.pr (.sl e5 (.int .i64)) (.pr (.sl e6 (.int .i64)) (.pr (.st (.pr (.int .i64) (.pr (.int .i64) (.pr (.int .i64) (.sl e7 (.st (.pr (.int .i64) (.pr (.int .i64) (.int .i64))))))))) (.pr (.sl e8 (.int .i64)) (.pr (.sl e9 (.int .i64)) (.pr (.st (.pr (.int .i64) (.pr (.int .i64) (.sl e10 (.st (.pr (.int .i64) (.pr (.int .i64) (.int .i64)))))))) (.sl e11 (.int .i64))))))))))) a):zm3 k a left=some (if (z2g a:Int)≤left then left-(z2g a:Int) else -1):=by
 have hs:z2g a=(z1r (a.1))+(zj (a.2.2.1))+(zj (a.2.2.2.1))+(z3m (a.2.2.2.2.1))+(zj (a.2.2.2.2.2.1))+(zj (a.2.2.2.2.2.2.1))+(z5v (a.2.2.2.2.2.2.2.1))+(zj (a.2.2.2.2.2.2.2.2)):=rfl
 unfold zm3
 rw [hs]
 have q0:=z1rp hk (a:=a.1) (left:=left) (by omega) (by omega) h.1
 rw [q0]
 by_cases c0:((z1r (a.1)):Int)≤left
 case neg=>rw [if_neg c0]; simp only [Option.bind_some]; rw [decide_eq_true (by omega),if_pos rfl,if_neg (by omega)]
 rw [if_pos c0]; simp only [Option.bind_some]
 rw [decide_eq_false (by omega),if_neg (by simp)]
 have q1:=zbd (a:=a.2.2.1) (left:=left-((z1r (a.1)):Int)) (by omega) (by omega) h.2.2.1
 rw [q1]
 by_cases c1:((zj (a.2.2.1)):Int)≤left-((z1r (a.1)):Int)
 case neg=>rw [if_neg c1]; simp only [Option.bind_some]; rw [decide_eq_true (by omega),if_pos rfl,if_neg (by omega)]
 rw [if_pos c1]; simp only [Option.bind_some]
 rw [decide_eq_false (by omega),if_neg (by simp)]
 have q2:=zbd (a:=a.2.2.2.1) (left:=left-((z1r (a.1)):Int)-((zj (a.2.2.1)):Int)) (by omega) (by omega) h.2.2.2.1
 rw [q2]
 by_cases c2:((zj (a.2.2.2.1)):Int)≤left-((z1r (a.1)):Int)-((zj (a.2.2.1)):Int)
 case neg=>rw [if_neg c2]; simp only [Option.bind_some]; rw [decide_eq_true (by omega),if_pos rfl,if_neg (by omega)]
 rw [if_pos c2]; simp only [Option.bind_some]
 rw [decide_eq_false (by omega),if_neg (by simp)]
 have q3:=z1rs (a:=a.2.2.2.2.1) (left:=left-((z1r (a.1)):Int)-((zj (a.2.2.1)):Int)-((zj (a.2.2.2.1)):Int)) (by omega) (by omega) h.2.2.2.2.1
 rw [q3]
 by_cases c3:((z3m (a.2.2.2.2.1)):Int)≤left-((z1r (a.1)):Int)-((zj (a.2.2.1)):Int)-((zj (a.2.2.2.1)):Int)
 case neg=>rw [if_neg c3]; simp only [Option.bind_some]; rw [decide_eq_true (by omega),if_pos rfl,if_neg (by omega)]
 rw [if_pos c3]; simp only [Option.bind_some]
 rw [decide_eq_false (by omega),if_neg (by simp)]
 have q4:=zbd (a:=a.2.2.2.2.2.1) (left:=left-((z1r (a.1)):Int)-((zj (a.2.2.1)):Int)-((zj (a.2.2.2.1)):Int)-((z3m (a.2.2.2.2.1)):Int)) (by omega) (by omega) h.2.2.2.2.2.1
 rw [q4]
 by_cases c4:((zj (a.2.2.2.2.2.1)):Int)≤left-((z1r (a.1)):Int)-((zj (a.2.2.1)):Int)-((zj (a.2.2.2.1)):Int)-((z3m (a.2.2.2.2.1)):Int)
 case neg=>rw [if_neg c4]; simp only [Option.bind_some]; rw [decide_eq_true (by omega),if_pos rfl,if_neg (by omega)]
 rw [if_pos c4]; simp only [Option.bind_some]
 rw [decide_eq_false (by omega),if_neg (by simp)]
 have q5:=zbd (a:=a.2.2.2.2.2.2.1) (left:=left-((z1r (a.1)):Int)-((zj (a.2.2.1)):Int)-((zj (a.2.2.2.1)):Int)-((z3m (a.2.2.2.2.1)):Int)-((zj (a.2.2.2.2.2.1)):Int)) (by omega) (by omega) h.2.2.2.2.2.2.1
 rw [q5]
 by_cases c5:((zj (a.2.2.2.2.2.2.1)):Int)≤left-((z1r (a.1)):Int)-((zj (a.2.2.1)):Int)-((zj (a.2.2.2.1)):Int)-((z3m (a.2.2.2.2.1)):Int)-((zj (a.2.2.2.2.2.1)):Int)
 case neg=>rw [if_neg c5]; simp only [Option.bind_some]; rw [decide_eq_true (by omega),if_pos rfl,if_neg (by omega)]
 rw [if_pos c5]; simp only [Option.bind_some]
 rw [decide_eq_false (by omega),if_neg (by simp)]
 have q6:=z1ru (a:=a.2.2.2.2.2.2.2.1) (left:=left-((z1r (a.1)):Int)-((zj (a.2.2.1)):Int)-((zj (a.2.2.2.1)):Int)-((z3m (a.2.2.2.2.1)):Int)-((zj (a.2.2.2.2.2.1)):Int)-((zj (a.2.2.2.2.2.2.1)):Int)) (by omega) (by omega) h.2.2.2.2.2.2.2.1
 rw [q6]
 by_cases c6:((z5v (a.2.2.2.2.2.2.2.1)):Int)≤left-((z1r (a.1)):Int)-((zj (a.2.2.1)):Int)-((zj (a.2.2.2.1)):Int)-((z3m (a.2.2.2.2.1)):Int)-((zj (a.2.2.2.2.2.1)):Int)-((zj (a.2.2.2.2.2.2.1)):Int)
 case neg=>rw [if_neg c6]; simp only [Option.bind_some]; rw [decide_eq_true (by omega),if_pos rfl,if_neg (by omega)]
 rw [if_pos c6]; simp only [Option.bind_some]
 rw [decide_eq_false (by omega),if_neg (by simp)]
 have q7:=zbd (a:=a.2.2.2.2.2.2.2.2) (left:=left-((z1r (a.1)):Int)-((zj (a.2.2.1)):Int)-((zj (a.2.2.2.1)):Int)-((z3m (a.2.2.2.2.1)):Int)-((zj (a.2.2.2.2.2.1)):Int)-((zj (a.2.2.2.2.2.2.1)):Int)-((z5v (a.2.2.2.2.2.2.2.1)):Int)) (by omega) (by omega) h.2.2.2.2.2.2.2.2
 rw [q7]
 by_cases c7:((zj (a.2.2.2.2.2.2.2.2)):Int)≤left-((z1r (a.1)):Int)-((zj (a.2.2.1)):Int)-((zj (a.2.2.2.1)):Int)-((z3m (a.2.2.2.2.1)):Int)-((zj (a.2.2.2.2.2.1)):Int)-((zj (a.2.2.2.2.2.2.1)):Int)-((z5v (a.2.2.2.2.2.2.2.1)):Int)
 case neg=>rw [if_neg c7]; simp only [Option.bind_some]; rw [decide_eq_true (by omega),if_pos rfl,if_neg (by omega)]
 rw [if_pos c7]; simp only [Option.bind_some]
 rw [decide_eq_false (by omega),if_neg (by simp)]
 rw [if_pos (by omega)]; congr 1; omega
theorem z1rw {w:Wrk} (h:z2g w≤1048576):smallW w:=by
 have e:z2g w=z1r w.1+w.2.2.1.length+w.2.2.2.1.length+w.2.2.2.2.1.2.2.2.length+w.2.2.2.2.2.1.length+w.2.2.2.2.2.2.1.length+w.2.2.2.2.2.2.2.1.2.2.length+w.2.2.2.2.2.2.2.2.length:=rfl
 exact ⟨z1rq (by omega),by omega,by omega,by omega,by omega,by omega⟩
theorem zbe {k:Nat} (hk:KK≤k) {a:List Int} (h:zj a≤10000000000):z78 k a=some a:=by
 have hl:a.length≤10000000000:=Nat.le_trans (show a.length≤zj a by unfold zj; omega) h
 unfold z78
 have hL:=z1p
 rw [if_pos ⟨by omega,Int.le_refl _,by omega⟩]
 refine zig (L:=fun n i q=>zf4 k n a i q fun q_5=>some q_5) (e:=fun q=>some q) a _ (by simp) ?_ ?_ (n:=k) (by have:=zg; omega)
 ·intro n i x q hx hlt hq
  have hw:=zd (i:=i) (by omega)
  have hi:i<q.length:=by omega
  simp [zf4,hlt,hx,hw,hi]
 ·intro n q
  simp [zf4]
theorem z1rx {k:Nat} (hk:KK≤k) {a:List (List Int)} (h:z54 a≤10000000000):zm5 k a=some a:=by
 have hl:a.length≤10000000000:=Nat.le_trans (show a.length≤z54 a by unfold z54; omega) h
 unfold zm5
 have hL:=z1p
 rw [if_pos ⟨by omega,Int.le_refl _,by omega⟩]
 refine zig (L:=fun n i q=>zf5 k n a i q fun q_5=>some q_5) (e:=fun q=>some q) a _ (by simp) ?_ ?_ (n:=k) (by have:=zg; omega)
 ·intro n i x q hx hlt hq
  have hw:=zd (i:=i) (by omega)
  have hi:i<q.length:=by omega
  have hm:=zh8 zj (List.mem_of_getElem? hx)
  have hb:zj x≤10000000000:=by unfold z54 at h; omega
  simp [zf5,zbe hk hb,hlt,hx,hw,hi]
 ·intro n q
  simp [zf5]
theorem z1ry {k:Nat} (hk:KK≤k) {a:List (List Int)} (h:z55 a≤10000000000):zm6 k a=some a:=by
 have b0:(z54 a)≤10000000000:=by unfold z55 at h; omega
 unfold zm6
 simp only [z1rx hk b0,Option.bind_some] <;> rfl
theorem z1rz {k:Nat} (hk:KK≤k) {a:Int×Int×Int×List Int} (h:z3y a≤10000000000):zm7 k a=some a:=by
 have b3:(zj (a.2.2.2))≤10000000000:=by unfold z3y at h; omega
 unfold zm7
 simp only [zbe hk b3,Option.bind_some] <;> rfl
theorem z1s0 {k:Nat} (hk:KK≤k) {a:List (Int×Int×Int×List Int)} (h:z56 a≤10000000000):zm8 k a=some a:=by
 have hl:a.length≤10000000000:=Nat.le_trans (show a.length≤z56 a by unfold z56; omega) h
 unfold zm8
 have hL:=z1p
 rw [if_pos ⟨by omega,Int.le_refl _,by omega⟩]
 refine zig (L:=fun n i q=>zf6 k n a i q fun q_5=>some q_5) (e:=fun q=>some q) a _ (by simp) ?_ ?_ (n:=k) (by have:=zg; omega)
 ·intro n i x q hx hlt hq
  have hw:=zd (i:=i) (by omega)
  have hi:i<q.length:=by omega
  have hm:=zh8 z3y (List.mem_of_getElem? hx)
  have hb:z3y x≤10000000000:=by unfold z56 at h; omega
  simp [zf6,z1rz hk hb,hlt,hx,hw,hi]
 ·intro n q
  simp [zf6]
theorem z1s1 {k:Nat} (hk:KK≤k) {a:List (List Int)×Int×List Int×(List (Int×Int×Int×List Int))} (h:z1r a≤10000000000):zm9 k a=some a:=by
 have b0:(z55 (a.1))≤10000000000:=by unfold z1r at h; omega
 have b2:(zj (a.2.2.1))≤10000000000:=by unfold z1r at h; omega
 have b3:(z56 (a.2.2.2))≤10000000000:=by unfold z1r at h; omega
 unfold zm9
 simp only [z1ry hk b0,zbe hk b2,z1s0 hk b3,Option.bind_some] <;> rfl
theorem z1s2 {a:Int×Int×Int} :zma a=some a:=by
 unfold zma
 rfl
theorem z1s3 {k:Nat} (hk:KK≤k) {a:List (Int×Int×Int)} (h:z5t a≤10000000000):zmb k a=some a:=by
 have hl:a.length≤10000000000:=Nat.le_trans (show a.length≤z5t a by unfold z5t; omega) h
 unfold zmb
 have hL:=z1p
 rw [if_pos ⟨by omega,Int.le_refl _,by omega⟩]
 refine zig (L:=fun n i q=>zf7 k n a i q fun q_5=>some q_5) (e:=fun q=>some q) a _ (by simp) ?_ ?_ (n:=k) (by have:=zg; omega)
 ·intro n i x q hx hlt hq
  have hw:=zd (i:=i) (by omega)
  have hi:i<q.length:=by omega
  simp [zf7,z1s2,hlt,hx,hw,hi]
 ·intro n q
  simp [zf7]
theorem z1s4 {k:Nat} (hk:KK≤k) {a:Int×Int×Int×(List (Int×Int×Int))} (h:z3m a≤10000000000):zmc k a=some a:=by
 have b3:(z5t (a.2.2.2))≤10000000000:=by unfold z3m at h; omega
 unfold zmc
 simp only [z1s3 hk b3,Option.bind_some] <;> rfl
theorem z1s5 {a:Int×Int×Int} :zmd a=some a:=by
 unfold zmd
 rfl
theorem z1s6 {k:Nat} (hk:KK≤k) {a:List (Int×Int×Int)} (h:z5u a≤10000000000):zme k a=some a:=by
 have hl:a.length≤10000000000:=Nat.le_trans (show a.length≤z5u a by unfold z5u; omega) h
 unfold zme
 have hL:=z1p
 rw [if_pos ⟨by omega,Int.le_refl _,by omega⟩]
 refine zig (L:=fun n i q=>zf8 k n a i q fun q_5=>some q_5) (e:=fun q=>some q) a _ (by simp) ?_ ?_ (n:=k) (by have:=zg; omega)
 ·intro n i x q hx hlt hq
  have hw:=zd (i:=i) (by omega)
  have hi:i<q.length:=by omega
  simp [zf8,z1s5,hlt,hx,hw,hi]
 ·intro n q
  simp [zf8]
theorem z1s7 {k:Nat} (hk:KK≤k) {a:Int×Int×(List (Int×Int×Int))} (h:z5v a≤10000000000):zmf k a=some a:=by
 have b2:(z5u (a.2.2))≤10000000000:=by unfold z5v at h; omega
 unfold zmf
 simp only [z1s6 hk b2,Option.bind_some] <;> rfl
theorem z1s8 {k:Nat} (hk:KK≤k) {a:(List (List Int)×Int×List Int×(List (Int×Int×Int×List Int)))×Int×List Int×List Int×(Int×Int×Int×(List (Int×Int×Int)))×List Int×List Int×(Int×Int×(List (Int×Int×Int)))×List Int} (h:z2g a≤10000000000):zf9 k a=some a:=by
 have b0:(z1r (a.1))≤10000000000:=by unfold z2g at h; omega
 have b2:(zj (a.2.2.1))≤10000000000:=by unfold z2g at h; omega
 have b3:(zj (a.2.2.2.1))≤10000000000:=by unfold z2g at h; omega
 have b4:(z3m (a.2.2.2.2.1))≤10000000000:=by unfold z2g at h; omega
 have b5:(zj (a.2.2.2.2.2.1))≤10000000000:=by unfold z2g at h; omega
 have b6:(zj (a.2.2.2.2.2.2.1))≤10000000000:=by unfold z2g at h; omega
 have b7:(z5v (a.2.2.2.2.2.2.2.1))≤10000000000:=by unfold z2g at h; omega
 have b8:(zj (a.2.2.2.2.2.2.2.2))≤10000000000:=by unfold z2g at h; omega
 unfold zf9
 simp only [z1s1 hk b0,zbe hk b2,zbe hk b3,z1s4 hk b4,zbe hk b5,zbe hk b6,z1s7 hk b7,zbe hk b8,Option.bind_some] <;> rfl
theorem zbf {k:Nat} (hk:KK≤k) {a b:List Int} (h:zj a≤10000000000):z7a k a b=some (decide (a=b)):=by
 have hle:a.length≤10000000000:=Nat.le_trans (show a.length≤zj a by unfold zj; omega) h
 unfold z7a
 by_cases hl:a.length=b.length
 ·rw [if_neg (by simp [hl])]
  refine zao (L:=fun n i=>zfl k n a b i (some true)) a b hl ?_ ?_ (n:=k) (by have:=zg; omega)
  ·intro n i x y hx hy hlt
   have hw:=zd (i:=i) (by omega)
   by_cases e:x=y <;> simp [zfl,hlt,hx,hy,hw,e]
  ·intro n
   simp [zfl]
 ·have h2:a≠b:=fun e=>hl (by rw [e])
  have h3:¬ (a.length:Int)=b.length:=by omega
  simp [h3,h2]
theorem z1s9 {k:Nat} (hk:KK≤k) {a b:List (List Int)} (h:z54 a≤10000000000):zn1 k a b=some (decide (a=b)):=by
 have hle:a.length≤10000000000:=Nat.le_trans (show a.length≤z54 a by unfold z54; omega) h
 unfold zn1
 by_cases hl:a.length=b.length
 ·rw [if_neg (by simp [hl])]
  refine zao (L:=fun n i=>zfm k n a b i (some true)) a b hl ?_ ?_ (n:=k) (by have:=zg; omega)
  ·intro n i x y hx hy hlt
   have hw:=zd (i:=i) (by omega)
   have hm:=zh8 zj (List.mem_of_getElem? hx)
   have hb:zj x≤10000000000:=by unfold z54 at h; omega
   simp only [zfm,hlt,decide_true,if_true,Int.natCast_nonneg,Int.toNat_natCast,hx,hy,Option.bind_some,hw,zbf hk hb]
   by_cases e:x=y
   ·rw [decide_eq_true e,if_pos e]; simp
   ·rw [decide_eq_false e,if_neg e]; simp
  ·intro n
   simp [zfm]
 ·have h2:a≠b:=fun e=>hl (by rw [e])
  have h3:¬ (a.length:Int)=b.length:=by omega
  simp [h3,h2]
theorem z1sa {k:Nat} (hk:KK≤k) {a b:List (List Int)} (h:z55 a≤10000000000):zn2 k a b=some (decide (a=b)):=by
 have c0:(z54 a)≤10000000000:=by unfold z55 at h; omega
 unfold zn2
 simp only [z1s9 hk c0,Option.bind_some,Prod.mk.injEq]
 by_cases x0:a=b
 case neg=>simp [x0]
 subst x0
 simp
theorem z1sb {k:Nat} (hk:KK≤k) {a b:Int×Int×Int×List Int} (h:z3y a≤10000000000):zn3 k a b=some (decide (a=b)):=by
 obtain ⟨a0,a1,a2,a3⟩:=a
 obtain ⟨b0,b1,b2,b3⟩:=b
 have c3:(zj a3)≤10000000000:=by unfold z3y at h; simp only at h; omega
 unfold zn3
 simp only [zbf hk c3,Option.bind_some,Prod.mk.injEq]
 by_cases x0:a0=b0
 case neg=>simp [x0]
 subst x0
 by_cases x1:a1=b1
 case neg=>simp [x1]
 subst x1
 by_cases x2:a2=b2
 case neg=>simp [x2]
 subst x2
 by_cases x3:a3=b3
 case neg=>simp [x3]
 subst x3
 simp
theorem z1sc {k:Nat} (hk:KK≤k) {a b:List (Int×Int×Int×List Int)} (h:z56 a≤10000000000):zn4 k a b=some (decide (a=b)):=by
 have hle:a.length≤10000000000:=Nat.le_trans (show a.length≤z56 a by unfold z56; omega) h
 unfold zn4
 by_cases hl:a.length=b.length
 ·rw [if_neg (by simp [hl])]
  refine zao (L:=fun n i=>zfn k n a b i (some true)) a b hl ?_ ?_ (n:=k) (by have:=zg; omega)
  ·intro n i x y hx hy hlt
   have hw:=zd (i:=i) (by omega)
   have hm:=zh8 z3y (List.mem_of_getElem? hx)
   have hb:z3y x≤10000000000:=by unfold z56 at h; omega
   simp only [zfn,hlt,decide_true,if_true,Int.natCast_nonneg,Int.toNat_natCast,hx,hy,Option.bind_some,hw,z1sb hk hb]
   by_cases e:x=y
   ·rw [decide_eq_true e,if_pos e]; simp
   ·rw [decide_eq_false e,if_neg e]; simp
  ·intro n
   simp [zfn]
 ·have h2:a≠b:=fun e=>hl (by rw [e])
  have h3:¬ (a.length:Int)=b.length:=by omega
  simp [h3,h2]
theorem z1sd {k:Nat} (hk:KK≤k) {a b:List (List Int)×Int×List Int×(List (Int×Int×Int×List Int))} (h:z1r a≤10000000000):zn5 k a b=some (decide (a=b)):=by
 obtain ⟨a0,a1,a2,a3⟩:=a
 obtain ⟨b0,b1,b2,b3⟩:=b
 have c0:(z55 a0)≤10000000000:=by unfold z1r at h; simp only at h; omega
 have c2:(zj a2)≤10000000000:=by unfold z1r at h; simp only at h; omega
 have c3:(z56 a3)≤10000000000:=by unfold z1r at h; simp only at h; omega
 unfold zn5
 simp only [z1sa hk c0,zbf hk c2,z1sc hk c3,Option.bind_some,Prod.mk.injEq]
 by_cases x0:a0=b0
 case neg=>simp [x0]
 subst x0
 by_cases x1:a1=b1
 case neg=>simp [x1]
 subst x1
 by_cases x2:a2=b2
 case neg=>simp [x2]
 subst x2
 by_cases x3:a3=b3
 case neg=>simp [x3]
 subst x3
 simp
theorem z1se {a b:Int×Int×Int} :zn6 a b=some (decide (a=b)):=by
 obtain ⟨a0,a1,a2⟩:=a
 obtain ⟨b0,b1,b2⟩:=b
 unfold zn6
 simp only [Prod.mk.injEq]
 by_cases x0:a0=b0
 case neg=>simp [x0]
 subst x0
 by_cases x1:a1=b1
 case neg=>simp [x1]
 subst x1
 by_cases x2:a2=b2
 case neg=>simp [x2]
 subst x2
 simp
theorem z1sf {k:Nat} (hk:KK≤k) {a b:List (Int×Int×Int)} (h:z5t a≤10000000000):zn7 k a b=some (decide (a=b)):=by
 have hle:a.length≤10000000000:=Nat.le_trans (show a.length≤z5t a by unfold z5t; omega) h
 unfold zn7
 by_cases hl:a.length=b.length
 ·rw [if_neg (by simp [hl])]
  refine zao (L:=fun n i=>zfo k n a b i (some true)) a b hl ?_ ?_ (n:=k) (by have:=zg; omega)
  ·intro n i x y hx hy hlt
   have hw:=zd (i:=i) (by omega)
   simp only [zfo,hlt,decide_true,if_true,Int.natCast_nonneg,Int.toNat_natCast,hx,hy,Option.bind_some,hw,z1se]
   by_cases e:x=y
   ·rw [decide_eq_true e,if_pos e]; simp
   ·rw [decide_eq_false e,if_neg e]; simp
  ·intro n
   simp [zfo]
 ·have h2:a≠b:=fun e=>hl (by rw [e])
  have h3:¬ (a.length:Int)=b.length:=by omega
  simp [h3,h2]
theorem z1sg {k:Nat} (hk:KK≤k) {a b:Int×Int×Int×(List (Int×Int×Int))} (h:z3m a≤10000000000):zn8 k a b=some (decide (a=b)):=by
 obtain ⟨a0,a1,a2,a3⟩:=a
 obtain ⟨b0,b1,b2,b3⟩:=b
 have c3:(z5t a3)≤10000000000:=by unfold z3m at h; simp only at h; omega
 unfold zn8
 simp only [z1sf hk c3,Option.bind_some,Prod.mk.injEq]
 by_cases x0:a0=b0
 case neg=>simp [x0]
 subst x0
 by_cases x1:a1=b1
 case neg=>simp [x1]
 subst x1
 by_cases x2:a2=b2
 case neg=>simp [x2]
 subst x2
 by_cases x3:a3=b3
 case neg=>simp [x3]
 subst x3
 simp
theorem z1sh {a b:Int×Int×Int} :zn9 a b=some (decide (a=b)):=by
 obtain ⟨a0,a1,a2⟩:=a
 obtain ⟨b0,b1,b2⟩:=b
 unfold zn9
 simp only [Prod.mk.injEq]
 by_cases x0:a0=b0
 case neg=>simp [x0]
 subst x0
 by_cases x1:a1=b1
 case neg=>simp [x1]
 subst x1
 by_cases x2:a2=b2
 case neg=>simp [x2]
 subst x2
 simp
theorem z1si {k:Nat} (hk:KK≤k) {a b:List (Int×Int×Int)} (h:z5u a≤10000000000):zna k a b=some (decide (a=b)):=by
 have hle:a.length≤10000000000:=Nat.le_trans (show a.length≤z5u a by unfold z5u; omega) h
 unfold zna
 by_cases hl:a.length=b.length
 ·rw [if_neg (by simp [hl])]
  refine zao (L:=fun n i=>zfp k n a b i (some true)) a b hl ?_ ?_ (n:=k) (by have:=zg; omega)
  ·intro n i x y hx hy hlt
   have hw:=zd (i:=i) (by omega)
   simp only [zfp,hlt,decide_true,if_true,Int.natCast_nonneg,Int.toNat_natCast,hx,hy,Option.bind_some,hw,z1sh]
   by_cases e:x=y
   ·rw [decide_eq_true e,if_pos e]; simp
   ·rw [decide_eq_false e,if_neg e]; simp
  ·intro n
   simp [zfp]
 ·have h2:a≠b:=fun e=>hl (by rw [e])
  have h3:¬ (a.length:Int)=b.length:=by omega
  simp [h3,h2]
theorem z1sj {k:Nat} (hk:KK≤k) {a b:Int×Int×(List (Int×Int×Int))} (h:z5v a≤10000000000):znb k a b=some (decide (a=b)):=by
 obtain ⟨a0,a1,a2⟩:=a
 obtain ⟨b0,b1,b2⟩:=b
 have c2:(z5u a2)≤10000000000:=by unfold z5v at h; simp only at h; omega
 unfold znb
 simp only [z1si hk c2,Option.bind_some,Prod.mk.injEq]
 by_cases x0:a0=b0
 case neg=>simp [x0]
 subst x0
 by_cases x1:a1=b1
 case neg=>simp [x1]
 subst x1
 by_cases x2:a2=b2
 case neg=>simp [x2]
 subst x2
 simp
theorem z1sk {k:Nat} (hk:KK≤k) {a b:(List (List Int)×Int×List Int×(List (Int×Int×Int×List Int)))×Int×List Int×List Int×(Int×Int×Int×(List (Int×Int×Int)))×List Int×List Int×(Int×Int×(List (Int×Int×Int)))×List Int} (h:z2g a≤10000000000):znc k a b=some (decide (a=b)):=by
 obtain ⟨a0,a1,a2,a3,a4,a5,a6,a7,a8⟩:=a
 obtain ⟨b0,b1,b2,b3,b4,b5,b6,b7,b8⟩:=b
 have c0:(z1r a0)≤10000000000:=by unfold z2g at h; simp only at h; omega
 have c2:(zj a2)≤10000000000:=by unfold z2g at h; simp only at h; omega
 have c3:(zj a3)≤10000000000:=by unfold z2g at h; simp only at h; omega
 have c4:(z3m a4)≤10000000000:=by unfold z2g at h; simp only at h; omega
 have c5:(zj a5)≤10000000000:=by unfold z2g at h; simp only at h; omega
 have c6:(zj a6)≤10000000000:=by unfold z2g at h; simp only at h; omega
 have c7:(z5v a7)≤10000000000:=by unfold z2g at h; simp only at h; omega
 have c8:(zj a8)≤10000000000:=by unfold z2g at h; simp only at h; omega
 unfold znc
 simp only [z1sd hk c0,zbf hk c2,zbf hk c3,z1sg hk c4,zbf hk c5,zbf hk c6,z1sj hk c7,zbf hk c8,Option.bind_some,Prod.mk.injEq]
 by_cases x0:a0=b0
 case neg=>simp [x0]
 subst x0
 by_cases x1:a1=b1
 case neg=>simp [x1]
 subst x1
 by_cases x2:a2=b2
 case neg=>simp [x2]
 subst x2
 by_cases x3:a3=b3
 case neg=>simp [x3]
 subst x3
 by_cases x4:a4=b4
 case neg=>simp [x4]
 subst x4
 by_cases x5:a5=b5
 case neg=>simp [x5]
 subst x5
 by_cases x6:a6=b6
 case neg=>simp [x6]
 subst x6
 by_cases x7:a7=b7
 case neg=>simp [x7]
 subst x7
 by_cases x8:a8=b8
 case neg=>simp [x8]
 subst x8
 simp
theorem z1sl (x:(List (List Int)×Int×List Int×(List (Int×Int×Int×List Int)))×Int×List Int×List Int×(Int×Int×Int×(List (Int×Int×Int)))×List Int×List Int×(Int×Int×(List (Int×Int×Int)))×List Int):((x.1.1,(x.1.2.1,(x.1.2.2.1,x.1.2.2.2))),(x.2.1,(x.2.2.1,(x.2.2.2.1,((x.2.2.2.2.1.1,(x.2.2.2.2.1.2.1,(x.2.2.2.2.1.2.2.1,x.2.2.2.2.1.2.2.2))),(x.2.2.2.2.2.1,(x.2.2.2.2.2.2.1,((x.2.2.2.2.2.2.2.1.1,(x.2.2.2.2.2.2.2.1.2.1,x.2.2.2.2.2.2.2.1.2.2)),x.2.2.2.2.2.2.2.2))))))))=x:=rfl
theorem z19a {k:Nat} {w:Wrk} (h:z7m k w=true):zy k w.1=true∧(0≤w.2.1∧w.2.1≤3)∧z27 w.2.2.1 (zh w.1.2.2.1 (ofC w.1.1 w.2.1)) w.1.2.1=true∧z27 w.2.2.2.1 (zh w.1.2.2.1 (ofC w.1.1 0)) w.1.2.1=true∧z2s w.2.2.2.2.1=true∧z3x w.2.2.2.2.2.2.2.1=true∧z27 w.2.2.2.2.2.2.2.2 w.2.2.2.2.2.2.2.1.1 w.2.2.2.2.2.2.2.1.2.1=true:=by
 unfold z7m at h
 simp only [Bool.and_eq_true,decide_eq_true_eq] at h
 exact ⟨h.1,h.2.1,h.2.2.1,h.2.2.2.1,h.2.2.2.2.1,h.2.2.2.2.2.1,h.2.2.2.2.2.2⟩
noncomputable def pbR (s:She) (y:Int):Prb:=match s.1[y.toNat]? with
 | some t=>(3,(z3v t,[100,105,115,97,103,114,101,101]))
 | none=>(0,([],[]))
noncomputable def z9w (s:She) (v:List Int):List Int:=z52 s (z2w (z36 s (zh s.2.2.1 (ofC s.1 1)).toNat (zh s.2.2.1 (ofC s.1 0)).toNat) v (zh s.2.2.1 (ofC s.1 0)).toNat (zh s.2.2.1 (ofC s.1 1)).toNat) (ofC s.1 1).length
noncomputable def z7n (s:She) (v:List Int):List Prb:=(z9w s v).map (pbR s)
theorem z19b {α β:Type} (f:α→β) {l:List α} {i:Nat} {y:α} (h:l[i]?=some y):(l.take (i+1)).map f=(l.take i).map f++[f y]:=by
 rw [List.take_add_one,h,List.map_append]; rfl
theorem zjx {c:Cx} (h:CxP c) {i:Nat} {t:List Int} (ht:c[i]?=some t):zdn t:=by
 have hs:=h.simp t (List.mem_of_getElem? ht)
 exact ⟨by have:=hs.len4; omega,fun x hx=>by have:=hs.vert x hx; omega⟩
theorem zum {k:Nat} (hk:KK≤k) {s:She} (hs:smallSh s) (h:zy k s=true) {v:List Int} (hv:z27 v (zh s.2.2.1 (ofC s.1 0)) s.2.1=true):zj3 k s v=some (z9w s v)∧ziq k s v=some (z9w s v)∧(z9w s v).length≤48∧∀ y∈z9w s v,0≤y∧y.toNat<s.1.length:=by
 obtain ⟨hCx,hp,hS⟩:=z1a hk h
 obtain ⟨R,hR,hR2⟩:=z18y hk h 1 (by omega)
 obtain ⟨C,hC,hC2⟩:=z18y hk h 0 (by omega)
 have hR:zh s.2.2.1 (ofC s.1 1)=(R:Int):=hR
 have hC:zh s.2.2.1 (ofC s.1 0)=(C:Int):=hC
 unfold z27 at hv
 rw [hC] at hv
 simp only [Bool.and_eq_true,decide_eq_true_eq,List.all_eq_true] at hv
 have hl:v.length=C:=by omega
 have e:z9w s v=z52 s (z2w (z36 s R C) v C R) (ofC s.1 1).length:=by unfold z9w; rw [hR,hC,Int.toNat_natCast,Int.toNat_natCast]
 rw [e]
 refine ⟨z1rf hk hs h hR hC hR2 hC2 hl hv.1,z1rg hk hs h hR hC hR2 hC2 hl hv.1,?_,fun y hy=>z1re hy⟩
 have h1:=zul s (z2w (z36 s R C) v C R) (ofC s.1 1).length
 have h2:=z9n s.1 1
 have h3:=hCx.len
 omega
theorem z1sm {k:Nat} (hk:KK≤k) {w:Wrk} (hs:smallSh w.1) (h:zy k w.1=true) (hv:z27 w.2.2.2.1 (zh w.1.2.2.1 (ofC w.1.1 0)) w.1.2.1=true):zo9 k w=some (z7n w.1 w.2.2.2.1):=by
 have hK:=zg
 obtain ⟨f1,f2,f3,f4⟩:=zum hk hs h hv
 obtain ⟨hCx,hp,hS⟩:=z1a hk h
 unfold zo9 z7n
 rw [f1]
 simp only [Option.bind_some]
 generalize z9w w.1 w.2.2.2.1=W at *
 have:=z1s (S:=List Prb) (R:=Option (List Prb)) (L:=fun m i q=>zg9 k m w i q W (fun q_7=>some q_7)) (b:=W.length) (st:=fun i=>(W.take i).map (pbR w.1)) (e:=some (W.map (pbR w.1))) ?_ ?_ (n:=k) (by omega)
 ·simpa using this
 ·intro m i hi
  have hlt:(i:Int)<(W.length:Int):=by omega
  have hw:=zd (i:=i) (by omega)
  have hg:W[i]?=some W[i]:=List.getElem?_eq_getElem hi
  obtain ⟨y0,y1⟩:=f4 W[i] (List.getElem_mem hi)
  have hga:w.1.1[(W[i]).toNat]?=some w.1.1[(W[i]).toNat]:=List.getElem?_eq_getElem y1
  have ht:=zq5 hk (zjx hCx hga)
  have hpb:pbR w.1 W[i]=(3,(z3v w.1.1[(W[i]).toNat],[100,105,115,97,103,114,101,101])):=by unfold pbR; rw [hga]
  have hL:(((W.take i).map (pbR w.1)).length+1)*40≤LIM:=by unfold LIM; rw [List.length_map,List.length_take]; omega
  simp only [zg9,hlt,decide_true,if_true,Int.natCast_nonneg,Int.toNat_natCast,hi,and_self,hg,Option.bind_some,y0,hga,ht,List.length_singleton,hL,hw,z19b (pbR w.1) hg,hpb]
 ·intro m
  simp only [zg9,Int.lt_irrefl,decide_false,Bool.false_eq_true,if_false,List.take_length]
theorem z1sn {k:Nat} (hk:KK≤k) {w:Wrk} (hs:smallSh w.1) (h:zy k w.1=true) (hv:z27 w.2.2.2.1 (zh w.1.2.2.1 (ofC w.1.1 0)) w.1.2.1=true):zis k w=some (z7n w.1 w.2.2.2.1):=by
 have hK:=zg
 obtain ⟨f1,f2,f3,f4⟩:=zum hk hs h hv
 obtain ⟨hCx,hp,hS⟩:=z1a hk h
 unfold zis z7n
 rw [f2]
 simp only [Option.bind_some]
 generalize z9w w.1 w.2.2.2.1=W at *
 have:=z1s (S:=List Prb) (R:=Option (List Prb)) (L:=fun m i q=>zfg k m (W.length:Int) i q W w (fun q_7=>some q_7)) (b:=W.length) (st:=fun i=>(W.take i).map (pbR w.1)) (e:=some (W.map (pbR w.1))) ?_ ?_ (n:=k) (by omega)
 ·simpa using this
 ·intro m i hi
  have hlt:(i:Int)<(W.length:Int):=by omega
  have hw:=zd (i:=i) (by omega)
  have hg:W[i]?=some W[i]:=List.getElem?_eq_getElem hi
  obtain ⟨y0,y1⟩:=f4 W[i] (List.getElem_mem hi)
  have hga:w.1.1[(W[i]).toNat]?=some w.1.1[(W[i]).toNat]:=List.getElem?_eq_getElem y1
  have ht:=zq6 hk (zjx hCx hga)
  have hpb:pbR w.1 W[i]=(3,(z3v w.1.1[(W[i]).toNat],[100,105,115,97,103,114,101,101])):=by unfold pbR; rw [hga]
  have hL:(((W.take i).map (pbR w.1)).length+1)*40≤LIM:=by unfold LIM; rw [List.length_map,List.length_take]; omega
  simp only [zfg,hlt,decide_true,if_true,Int.natCast_nonneg,Int.toNat_natCast,hi,and_self,hg,Option.bind_some,y0,hga,ht,List.length_singleton,hL,hw,z19b (pbR w.1) hg,hpb]
 ·intro m
  simp only [zfg,Int.lt_irrefl,decide_false,Bool.false_eq_true,if_false,List.take_length]
theorem z19c {k:Nat} (hk:KK≤k) {w:Wrk} (hs:smallSh w.1) (h:zy k w.1=true) (hv:z27 w.2.2.2.1 (zh w.1.2.2.1 (ofC w.1.1 0)) w.1.2.1=true):(z7n w.1 w.2.2.2.1).length≤48:=by
 obtain ⟨_,_,f3,_⟩:=zum hk hs h hv
 unfold z7n
 rw [List.length_map]
 exact f3
theorem z19d {α:Type} (f:α→Nat) (B:Nat):∀ l:List α,(∀ x∈l,f x≤B)→z1h f l≤l.length*B
 | [],_=>by simp [z1h]
 | x::l,h=>by
  have h1:=z19d f B l fun y hy=>h y (List.mem_cons_of_mem _ hy)
  have h2:=h x (List.mem_cons_self)
  rw [zdp,List.length_cons,Nat.add_mul]
  omega
theorem z1so {k:Nat} (hk:KK≤k) {w:Wrk} (hs:smallSh w.1) (h:zy k w.1=true) (hv:z27 w.2.2.2.1 (zh w.1.2.2.1 (ofC w.1.1 0)) w.1.2.1=true):z2v (z7n w.1 w.2.2.2.1)≤100000:=by
 have hl:=z19c hk hs h hv
 obtain ⟨hCx,hp,hS⟩:=z1a hk h
 have hs:z1h z5s (z7n w.1 w.2.2.2.1)≤(z7n w.1 w.2.2.2.1).length*600:=by
  refine z19d _ _ _ fun y hy=>?_
  unfold z7n at hy
  obtain ⟨j,_,rfl⟩:=List.mem_map.1 hy
  unfold pbR
  cases hg:w.1.1[j.toNat]? with
  | none=>simp [z5s]
  | some a =>
   have:=(zq4 (zjx hCx hg)).1
   simp only [z5s,List.length_cons,List.length_nil]
   omega
 unfold z2v
 omega
theorem zha {s:List Int} {k:Nat} (h:k<s.length) (x:Nat):(zw s k)[x]?=if x<k then s[x]? else s[x+1]?:=by
 have hl:(s.take k).length=k:=by rw [List.length_take]; omega
 unfold zw
 by_cases hx:x<k
 ·rw [if_pos hx,List.getElem?_append_left (by omega),List.getElem?_take_of_lt hx]
 ·rw [if_neg hx,List.getElem?_append_right (by omega),hl,List.getElem?_drop,show k+1+(x-k)=x+1 by omega]
theorem z1sp {s:List Int} {i d:Nat} (h:i+1+d<s.length):zw (zw s i) (i+d)=zw (zw s (i+1+d)) i:=by
 have l1:=z8g (s:=s) (k:=i) (by omega)
 have l2:=z8g (s:=s) (k:=i+1+d) h
 refine List.ext_getElem? fun x=>?_
 have a0:=zha (s:=zw s i) (k:=i+d) (by omega) x
 have b0:=zha (s:=s) (k:=i) (by omega) x
 have b1:=zha (s:=s) (k:=i) (by omega) (x+1)
 have c0:=zha (s:=zw s (i+1+d)) (k:=i) (by omega) x
 have d0:=zha (s:=s) (k:=i+1+d) h x
 have d1:=zha (s:=s) (k:=i+1+d) h (x+1)
 rw [a0,c0,b0,b1,d0,d1]
 repeat' split
 all_goals first
  | rfl
  | (exfalso; omega)
theorem z19e {c:Cx} (h:CxP c) {D:Int} (hD:D = -1∨D=4):ofC c D=[]:=by
 unfold ofC
 refine List.filter_eq_nil_iff.2 fun i hi=>?_
 cases hg:c[i]? with
 | none=>simp
 | some s =>
  have h1:=(h.simp s (List.mem_of_getElem? hg)).len1
  have h4:=(h.simp s (List.mem_of_getElem? hg)).len4
  simp only [decide_eq_true_eq]
  rcases hD with rfl | rfl <;> omega
theorem z19f {k:Nat} (hk:KK≤k) {s:She} (h:zy k s=true) (D:Int) (hD : -1≤D∧D≤4):∃ R:Nat,zh s.2.2.1 (ofC s.1 D)=(R:Int)∧R≤32:=by
 obtain ⟨hCx,hp,hS⟩:=z1a hk h
 by_cases h1:D = -1∨D=4
 ·rw [z19e hCx h1]
  exact ⟨0,rfl,by omega⟩
 ·obtain ⟨d,rfl⟩:=Int.eq_ofNat_of_zero_le (show 0≤D by omega)
  exact z1r6 hk h d (by omega)
theorem z19g {k:Nat} (hk:KK≤k) {s:She} (hs:smallSh s) (h:zy k s=true) (e:Int) (he : -1≤e∧e≤3):∃ (M:Mat) (R C:Nat),z83 k s e=some M∧z86 k s e=some M∧MatP M R C∧zh s.2.2.1 (ofC s.1 (e+1))=(R:Int)∧zh s.2.2.1 (ofC s.1 e)=(C:Int)∧M.1=s.2.1:=by
 have hK:=zg
 obtain ⟨hCx,hp,hS⟩:=z1a hk h
 obtain ⟨R,hR,hR2⟩:=z19f hk h (e+1) (by omega)
 obtain ⟨C,hC,hC2⟩:=z19f hk h e (by omega)
 by_cases h1:e = -1
 ·subst h1
  have hC0:C=0:=by
   rw [z19e hCx (.inl rfl)] at hC
   have:(0:Int)=(C:Int):=hC
   omega
  subst hC0
  have w1:z6 (-1+1)=0:=zf (by omega) (by omega)
  have e0:(-1:Int)+1=0:=by omega
  rw [e0] at hR
  have hn:(-1:Int)<0:=by omega
  have hnn:¬ (0:Int) ≤ -1:=by omega
  have c0:((0:Nat):Int)=0:=rfl
  have hc:zh s.2.2.1 (ofC s.1 (-1))=0:=hC
  obtain ⟨n,rfl⟩:∃ n,k=n+1:=⟨k-1,by omega⟩
  have z1:=zuh hk s.2.1 (R:=R) (C:=0) hR2 hC2
  have z2:=zui s.2.1 (R:=R) (C:=0) hR2 hC2
  rw [c0] at z1 z2
  refine ⟨(s.2.1,(R:Int),(0:Int),List.replicate (R*0) 0),R,0,?_,?_,⟨rfl,rfl,hR2,hC2,by simp,hp,by simp,by simp⟩,by rw [e0]; exact hR,hC,rfl⟩
  ·unfold z83
   simp only [w1,z9q hk (z2k hCx) hS (show -1000≤(0:Int)∧(0:Int)≤1000 by omega),z9q hk (z2k hCx) hS (show -1000≤(-1:Int)∧(-1:Int)≤1000 by omega),hR,hc,Option.bind_some,z1,zh2 hk (z2k hCx) (show -1000≤(0:Int)∧(0:Int)≤1000 by omega),List.length_map,z8c]
   cases hO:ofC s.1 0 with
   | nil=>simp
   | cons x l=>simp [hn]
  ·unfold z86
   simp only [w1,z9p hk (z2k hCx) hS (show -1000≤(0:Int)∧(0:Int)≤1000 by omega),z9p hk (z2k hCx) hS (show -1000≤(-1:Int)∧(-1:Int)≤1000 by omega),hR,hc,Option.bind_some,z2,zjk hk (z2k hCx) (show -1000≤(0:Int)∧(0:Int)≤1000 by omega),z85,hnn,decide_false,Bool.false_eq_true,if_false,ite_self]
 ·obtain ⟨d,rfl⟩:=Int.eq_ofNat_of_zero_le (show 0≤e by omega)
  exact ⟨zqc s d R C,R,C,z1r7 hk hs h (by omega) hR hC hR2 hC2,z1r8 hk hs h (by omega) hR hC hR2 hC2,z1r9 hk hs h (by omega) hR hC hR2 hC2,hR,hC,rfl⟩
theorem z1sq {k:Nat} (hk:KK≤k) {w:Wrk} (hs:smallW w) (hb:z7m k w=true):∃ L:List Prb,zo8 k w=some L∧zim k w=some L∧L.length≤1∧z2v L≤2000:=by
 have hK:=zg
 have hn:=z19a hb
 have h:=hn.1
 have hss:=hs.sh
 obtain ⟨hCx,hp,hS⟩:=z1a hk h
 unfold zo8 zim
 cases hall:(List.range w.1.1.length).all (z50 w.1) with
 | false =>
  obtain ⟨j,t,i,d,F⟩:=z1qc hall
  obtain ⟨c,hc,hcg⟩:=z1qh hk hss h F
  have hft:=zjx hCx F.hj
  have hfc:=zjx hCx hcg
  have h4:=(hCx.simp t (List.mem_of_getElem? F.hj)).len4
  have hdd:=F.hd
  have d1:=zpq (s:=t) (by omega) (k:=i+1+d) hdd
  have l2:=z8g (s:=t) (k:=i+1+d) hdd
  have d2:=zpq (s:=zw t (i+1+d)) (by omega) (k:=i) (by omega)
  rw [← z1sp hdd] at d2
  refine ⟨[(1,(z3v t,z3v (zw (zw t i) (i+d))))],?_,?_,by simp,?_⟩
  ·rw [z1qe hk hss h F]
   have hj0:(0:Int)≤(j:Int):=by omega
   simp only [Option.bind_some,hj0,decide_true,if_true,Int.toNat_natCast,F.hj,zq5 hk hft,d1,d2,zq5 hk hfc]
  ·rw [hc]
   simp only [Option.bind_some,if_true,Int.natCast_nonneg,Int.toNat_natCast,F.hj,zq6 hk hft,hcg,zq6 hk hfc]
  ·have a1:=(zq4 hft).1
   have a2:=(zq4 hfc).1
   have e1:z2v [((1:Int),(z3v t,z3v (zw (zw t i) (i+d))))]=1+(z5s ((1:Int),(z3v t,z3v (zw (zw t i) (i+d))))+0):=by unfold z2v; rw [zdp,zq7]; rfl
   rw [e1]
   simp only [z5s]
   omega
 | true =>
  have hcl:=hn.2.2.1
  have hd:=hn.2.1
  unfold z27 at hcl
  simp only [Bool.and_eq_true,decide_eq_true_eq,List.all_eq_true] at hcl
  obtain ⟨M,R,C,m1,m2,m3,m4,m5,m6⟩:=z19g hk hss h w.2.1 (by omega)
  obtain ⟨M2,R2,C2,n1,n2,n3,n4,n5,n6⟩:=z19g hk hss h (w.2.1-1) (by omega)
  have hw1:z6 (w.2.1-1)=w.2.1-1:=zf (by omega) (by omega)
  rw [show w.2.1-1+1=w.2.1 by omega] at n4
  have hlC:w.2.2.1.length=C:=by omega
  have hlR:w.2.2.1.length=R2:=by omega
  have a1:=z193 hk m3 hlC (by rw [m6]; exact hcl.1)
  have a2:=z194 hk m3 hlC (by rw [m6]; exact hcl.1)
  have hvl:=zjw M w.2.2.1 C R
  have hR:=m3.r32
  have b1:=z195 hk (v:=z2w M w.2.2.1 C R) (by omega)
  have b2:=z196 hk (v:=z2w M w.2.2.1 C R) (by omega)
  obtain ⟨r,s1,s2⟩:=z1q7 hk n3 hlR (by rw [n6]; exact hcl.1)
  have sz1:z2v [((2:Int),(([99,108,97,115,115]:List UInt8),([111,112,101,110]:List UInt8)))]≤2000:=by
   unfold z2v; rw [zdp,zq7]; simp [z5s]
  have sz2:z2v [((2:Int),(([99,108,97,115,115]:List UInt8),([116,114,105,118,105,97,108]:List UInt8)))]≤2000:=by
   unfold z2v; rw [zdp,zq7]; simp [z5s]
  have c1:zmq k w.1 w.2.1 w.2.2.1=some (!nzB (z2w M w.2.2.1 C R)):=by
   unfold zmq
   rw [m1]
   simp only [Option.bind_some]
   rw [show (M.1,(M.2.1,(M.2.2.1,M.2.2.2)))=M from rfl,a1]
   simp only [Option.bind_some,b1]
  have c2:znv k w.1 w.2.1 w.2.2.1=some (!nzB (z2w M w.2.2.1 C R)):=by
   unfold znv
   rw [m2]
   simp only [Option.bind_some]
   rw [show (M.1,(M.2.1,(M.2.2.1,M.2.2.2)))=M from rfl,a2]
   simp only [Option.bind_some,b2]
  have e1:zmp k w.1 w.2.1 w.2.2.1=some r:=by
   unfold zmp
   rw [hw1,n1]
   simp only [Option.bind_some]
   rw [show (M2.1,(M2.2.1,(M2.2.2.1,M2.2.2.2)))=M2 from rfl,s2]
   rfl
  have e2:zo7 k w.1 w.2.1 w.2.2.1=some r:=by
   unfold zo7
   rw [hw1,n2]
   simp only [Option.bind_some]
   rw [show (M2.1,(M2.2.1,(M2.2.2.1,M2.2.2.2)))=M2 from rfl,s1]
   rfl
  rw [z1qf hk hss h hall,z1qi hk hss h hall]
  have hneg:¬ (0:Int) ≤ -1:=by omega
  simp only [Option.bind_some,hneg,decide_false,Bool.false_eq_true,if_false,c1,c2,e1,e2]
  cases nzB (z2w M w.2.2.1 C R)
  ·simp only [Bool.not_false,Bool.not_true,Bool.false_eq_true,if_false]
   cases r.2
   ·exact ⟨[],by simp,by simp,by simp,by simp [z2v,z1h]⟩
   ·exact ⟨_,by simp,by simp,by simp,sz2⟩
  ·simp only [Bool.not_false,Bool.not_true,if_true]
   exact ⟨_,rfl,rfl,by simp,sz1⟩
theorem z1sr {n:Int} (h : -9223372036854775808≤n) (h2:n≤9223372036854775807):(Lib.itoa n).length≤21:=by
 unfold Lib.itoa
 split
 ·rw [List.length_cons]
  have:=zq2 (u:=n.natAbs) (j:=20) (by omega) (by omega)
  first | omega | (have:=zq2 (u:=(-n).toNat) (j:=20) (by omega) (by omega); omega)
 ·have:=zq2 (u:=n.toNat) (j:=20) (by omega) (by omega)
  omega
theorem z1ss {n:Net} (f s:List Int) (h:z2s n=true):z2v (z9v n f s)≤100:=by
 unfold z9v
 split
 ·rename_i hb
  obtain ⟨_,r2,r3⟩:=zue (s:=s) h hb
  have:=z1sr r2 r3
  split
  ·split
   ·simp [z2v,z1h]
   ·simp only [z2v,z1h,z5s,List.map,List.sum,List.length_cons,List.length_nil,List.foldr]
    omega
  ·simp [z2v,z1h,z5s]
 ·simp [z2v,z1h,z5s]
theorem z1st {n p:Int} (hp:0<p) (hp2:p≤1000000):zcr n p=some (n % p):=by
 have h0:¬ p=0:=by omega
 have b1:Int.tmod n p<p:=Int.tmod_lt_of_pos n hp
 have b2 : -p<Int.tmod n p:=Int.lt_tmod_of_pos n hp
 have w:z6 (Int.tmod n p+p)=Int.tmod n p+p:=zf (by omega) (by omega)
 unfold zcr
 rw [if_neg h0,if_neg h0,w,Int.tmod_eq_emod_of_nonneg (by omega)]
 have e:=Int.mul_tdiv_add_tmod n p
 have:Int.tmod n p+p=n+p*(1-Int.tdiv n p):=by rw [Int.mul_sub,Int.mul_one]; omega
 rw [this,Int.add_mul_emod_self_left]
theorem z1su {u v s m:Int} (hm:2≤m) (hu:0≤u) (hs:0≤s) (hv:0≤v∧v≤m-1):(Int.tmod (u+s) m=v)↔(v-u-s) % m=0:=by
 rw [Int.tmod_eq_emod_of_nonneg (by omega)]
 have e:v % m=v:=Int.emod_eq_of_lt (by omega) (by omega)
 have:=Int.emod_eq_emod_iff_emod_sub_eq_zero (m:=v) (n:=m) (k:=u+s)
 rw [show v-u-s=v-(u+s) by omega,← this,e]
 exact eq_comm
theorem zhb {x:Pha} (h:z3x x=true):(1≤x.1∧x.1≤12)∧(2≤x.2.1∧x.2.1≤360)∧x.2.2.length≤24∧∀ (i:Nat) a,x.2.2[i]?=some a→0≤a.1∧a.1<a.2.1∧a.2.1<x.1∧0≤a.2.2∧a.2.2≤x.2.1-1:=by
 unfold z3x at h
 simp only [Bool.and_eq_true,decide_eq_true_eq,List.all_eq_true] at h
 obtain ⟨h1,h2,h3,h4⟩:=h
 refine ⟨h1,h2,h4,fun i a ha=>?_⟩
 have:=h3 i (List.mem_range.2 (List.getElem?_eq_some_iff.1 ha).1)
 have hw:z6 (x.2.1-1)=x.2.1-1:=zf (by omega) (by omega)
 unfold z8l at this
 rw [ha,hw] at this
 simp only [Bool.and_eq_true,Bool.not_eq_true',decide_eq_true_eq,decide_eq_false_iff_not] at this
 omega
def zbg (x:Pha) (p:List Int) (i:Nat):Bool:=match x.2.2[i]? with
 | some a=>!decide (Int.tmod (p.getD a.1.toNat 0+a.2.2) x.2.1=p.getD a.2.1.toNat 0)
 | none=>false
def wrU (x:Pha) (p:List Int) (i:Nat):List Int:=((List.range i).filter (zbg x p)).map fun (j:Nat)=>(j:Int)
theorem z19h (x:Pha) (p:List Int) (i:Nat):wrU x p (i+1)=if zbg x p i=true then wrU x p i++[(i:Int)] else wrU x p i:=by
 unfold wrU
 rw [List.range_succ,List.filter_append,List.map_append]
 cases h:zbg x p i <;> simp [h]
theorem zjy (x:Pha) (p:List Int) (i:Nat):(wrU x p i).length≤i:=by
 unfold wrU
 rw [List.length_map]
 have:=List.length_filter_le (zbg x p) (List.range i)
 rwa [List.length_range] at this
theorem z19i {x:Pha} {p:List Int} {i:Nat} {y:Int} (h:y∈wrU x p i):0≤y∧y.toNat<i:=by
 unfold wrU at h
 obtain ⟨j,hj,rfl⟩:=List.mem_map.1 h
 have:=List.mem_range.1 (List.mem_filter.1 hj).1
 exact ⟨by omega,by omega⟩
theorem zqe {v:List Int} {n p:Int} (h:z27 v n p=true) {j:Int} (h0:0≤j) (h1:j<n):v[j.toNat]?=some (v.getD j.toNat 0)∧0≤v.getD j.toNat 0∧v.getD j.toNat 0≤p-1:=by
 unfold z27 at h
 simp only [Bool.and_eq_true,decide_eq_true_eq,List.all_eq_true] at h
 have hl:j.toNat<v.length:=by omega
 have hg:v[j.toNat]?=some v[j.toNat]:=List.getElem?_eq_getElem hl
 have e:v.getD j.toNat 0=v[j.toNat]:=by rw [List.getD_eq_getElem?_getD,hg]; rfl
 rw [e]
 exact ⟨hg,h.1 _ (List.getElem_mem hl)⟩
theorem z1sv {k:Nat} (hk:KK≤k) {x:Pha} {p:List Int} (h:z3x x=true) (hp:z27 p x.1 x.2.1=true):zoe k x p=some (wrU x p x.2.2.length):=by
 have hK:=zg
 obtain ⟨p1,p2,p3,p4⟩:=zhb h
 unfold zoe
 refine z1s (S:=List Int) (L:=fun m i q=>zcy k m x p i q (fun q_6=>some q_6)) (b:=x.2.2.length) (st:=wrU x p) ?_ ?_ (n:=k) (by omega)
 ·intro m i hi
  have hlt:(i:Int)<(x.2.2.length:Int):=by omega
  have hw:=zd (i:=i) (by omega)
  have hg:x.2.2[i]?=some x.2.2[i]:=List.getElem?_eq_getElem hi
  obtain ⟨q1,q2,q3,q4,q5⟩:=p4 i _ hg
  have hlen:=zjy x p i
  have hL:((wrU x p i).length+[(i:Int)].length)*8≤LIM:=by unfold LIM; simp only [List.length_singleton]; omega
  have hb:zbg x p i=!decide (Int.tmod (p.getD x.2.2[i].1.toNat 0+x.2.2[i].2.2) x.2.1=p.getD x.2.2[i].2.1.toNat 0):=by unfold zbg; rw [hg]
  obtain ⟨g1,r1,r2⟩:=zqe hp (j:=x.2.2[i].1) q1 (by omega)
  obtain ⟨g2,r3,r4⟩:=zqe hp (j:=x.2.2[i].2.1) (by omega) (by omega)
  simp only [z19h,hb]
  generalize x.2.2[i]=a at *
  generalize p.getD a.1.toNat 0=u at *
  generalize p.getD a.2.1.toNat 0=v at *
  have w1:z6 (v-u)=v-u:=zf (by omega) (by omega)
  have w2:z6 (v-u-a.2.2)=v-u-a.2.2:=zf (by omega) (by omega)
  have hm:=z1st (n:=v-u-a.2.2) (p:=x.2.1) (by omega) (by omega)
  have hs:=z1su (u:=u) (v:=v) (s:=a.2.2) (m:=x.2.1) (by omega) (by omega) (by omega) ⟨r3,r4⟩
  have h21:0≤a.2.1:=by omega
  simp only [zcy,hlt,decide_true,if_true,Int.natCast_nonneg,Int.toNat_natCast,hg,Option.bind_some,hw,q1,h21,g1,g2,w1,w2,hm,hL]
  by_cases c:Int.tmod (u+a.2.2) x.2.1=v
  ·rw [decide_eq_true c,decide_eq_true (hs.1 c)]; simp
  ·rw [decide_eq_false c,decide_eq_false (fun e=>c (hs.2 e))]; simp
 ·intro m
  simp only [zcy,Int.lt_irrefl,decide_false,Bool.false_eq_true,if_false]
theorem z1sw {k:Nat} (hk:KK≤k) {x:Pha} {p:List Int} (h:z3x x=true) (hp:z27 p x.1 x.2.1=true):zmw k x p=some (wrU x p x.2.2.length):=by
 have hK:=zg
 obtain ⟨p1,p2,p3,p4⟩:=zhb h
 unfold zmw
 refine z1s (S:=List Int) (L:=fun m i q=>zcd k m p x.2.2 (x.2.2.length:Int) i q x (fun q_5=>some q_5)) (b:=x.2.2.length) (st:=wrU x p) ?_ ?_ (n:=k) (by omega)
 ·intro m i hi
  have hlt:(i:Int)<(x.2.2.length:Int):=by omega
  have hw:=zd (i:=i) (by omega)
  have hg:x.2.2[i]?=some x.2.2[i]:=List.getElem?_eq_getElem hi
  obtain ⟨q1,q2,q3,q4,q5⟩:=p4 i _ hg
  have hlen:=zjy x p i
  have hL:((wrU x p i).length+[(i:Int)].length)*8≤LIM:=by unfold LIM; simp only [List.length_singleton]; omega
  have hb:zbg x p i=!decide (Int.tmod (p.getD x.2.2[i].1.toNat 0+x.2.2[i].2.2) x.2.1=p.getD x.2.2[i].2.1.toNat 0):=by unfold zbg; rw [hg]
  obtain ⟨g1,r1,r2⟩:=zqe hp (j:=x.2.2[i].1) q1 (by omega)
  obtain ⟨g2,r3,r4⟩:=zqe hp (j:=x.2.2[i].2.1) (by omega) (by omega)
  simp only [z19h,hb]
  generalize x.2.2[i]=a at *
  generalize p.getD a.1.toNat 0=u at *
  generalize p.getD a.2.1.toNat 0=v at *
  have w1:z6 (u+a.2.2)=u+a.2.2:=zf (by omega) (by omega)
  have h21:0≤a.2.1:=by omega
  have hm0:¬ x.2.1=0:=by omega
  simp only [zcd,hlt,decide_true,if_true,Int.natCast_nonneg,Int.toNat_natCast,hg,Option.bind_some,hw,q1,h21,g1,g2,w1,hm0,if_false,hL]
  split <;> rfl
 ·intro m
  simp only [zcd,Int.lt_irrefl,decide_false,Bool.false_eq_true,if_false]
noncomputable def pbT (x:Pha) (y:Int):Prb:=match x.2.2[y.toNat]? with
 | some a=>(5,(z3v [a.1,a.2.1],[115,104,105,102,116]))
 | none=>(0,([],[]))
noncomputable def z7o (x:Pha) (p:List Int):List Prb:=(wrU x p x.2.2.length).map (pbT x)
theorem zun {x:Pha} (h:z3x x=true) {i:Nat} {a:Edg} (ha:x.2.2[i]?=some a):zdn [a.1,a.2.1]:=by
 obtain ⟨p1,p2,p3,p4⟩:=zhb h
 have:=p4 i a ha
 refine ⟨by simp,fun y hy=>?_⟩
 simp only [List.mem_cons,List.not_mem_nil,or_false] at hy
 rcases hy with rfl | rfl <;> omega
theorem z19j {α β:Type} (f:α→β) {l:List α} {i:Nat} {y:α} (h:l[i]?=some y):(l.take (i+1)).map f=(l.take i).map f++[f y]:=by
 rw [List.take_add_one,h,List.map_append]; rfl
theorem z1sx {k:Nat} (hk:KK≤k) {w:She×Int×List Int×List Int×Net×List Int×List Int×Pha×List Int} (h:z3x w.2.2.2.2.2.2.2.1=true) (hp:z27 w.2.2.2.2.2.2.2.2 w.2.2.2.2.2.2.2.1.1 w.2.2.2.2.2.2.2.1.2.1=true):zof k w=some (z7o w.2.2.2.2.2.2.2.1 w.2.2.2.2.2.2.2.2):=by
 have hK:=zg
 unfold zof z7o
 rw [z1sv hk h hp]
 obtain ⟨p1,p2,p3,p4⟩:=zhb h
 have hm:=fun y=>z19i (x:=w.2.2.2.2.2.2.2.1) (p:=w.2.2.2.2.2.2.2.2) (i:=w.2.2.2.2.2.2.2.1.2.2.length) (y:=y)
 have hl:=zjy w.2.2.2.2.2.2.2.1 w.2.2.2.2.2.2.2.2 w.2.2.2.2.2.2.2.1.2.2.length
 simp only [Option.bind_some]
 generalize wrU w.2.2.2.2.2.2.2.1 w.2.2.2.2.2.2.2.2 w.2.2.2.2.2.2.2.1.2.2.length=W at *
 have:=z1s (S:=List Prb) (R:=Option (List Prb)) (L:=fun m i q=>zgb k m w i q W (fun q_7=>some q_7)) (b:=W.length) (st:=fun i=>(W.take i).map (pbT w.2.2.2.2.2.2.2.1)) (e:=some (W.map (pbT w.2.2.2.2.2.2.2.1))) ?_ ?_ (n:=k) (by omega)
 ·simpa using this
 ·intro m i hi
  have hlt:(i:Int)<(W.length:Int):=by omega
  have hw:=zd (i:=i) (by omega)
  have hg:W[i]?=some W[i]:=List.getElem?_eq_getElem hi
  obtain ⟨y0,y1⟩:=hm W[i] (List.getElem_mem hi)
  have hin:(0:Int)≤(i:Int)∧i<W.length:=⟨by omega,hi⟩
  have hga:w.2.2.2.2.2.2.2.1.2.2[(W[i]).toNat]?=some w.2.2.2.2.2.2.2.1.2.2[(W[i]).toNat]:=List.getElem?_eq_getElem y1
  have ht:=zq5 hk (zun h hga)
  have hpb:pbT w.2.2.2.2.2.2.2.1 W[i]=(5,(z3v [w.2.2.2.2.2.2.2.1.2.2[(W[i]).toNat].1,w.2.2.2.2.2.2.2.1.2.2[(W[i]).toNat].2.1],[115,104,105,102,116])):=by unfold pbT; rw [hga]
  have hL:(((W.take i).map (pbT w.2.2.2.2.2.2.2.1)).length+1)*40≤LIM:=by unfold LIM; rw [List.length_map,List.length_take]; omega
  simp only [zgb,hlt,decide_true,if_true,Int.natCast_nonneg,Int.toNat_natCast,hi,and_self,hg,Option.bind_some,y0,hga,ht,List.length_singleton,hL,hw,z19j (pbT w.2.2.2.2.2.2.2.1) hg,hpb]
 ·intro m
  simp only [zgb,Int.lt_irrefl,decide_false,Bool.false_eq_true,if_false,List.take_length]
theorem z1sy {k:Nat} (hk:KK≤k) {w:She×Int×List Int×List Int×Net×List Int×List Int×Pha×List Int} (h:z3x w.2.2.2.2.2.2.2.1=true) (hp:z27 w.2.2.2.2.2.2.2.2 w.2.2.2.2.2.2.2.1.1 w.2.2.2.2.2.2.2.1.2.1=true):zix k w=some (z7o w.2.2.2.2.2.2.2.1 w.2.2.2.2.2.2.2.2):=by
 have hK:=zg
 unfold zix z7o
 rw [z1sw hk h hp]
 obtain ⟨p1,p2,p3,p4⟩:=zhb h
 have hm:=fun y=>z19i (x:=w.2.2.2.2.2.2.2.1) (p:=w.2.2.2.2.2.2.2.2) (i:=w.2.2.2.2.2.2.2.1.2.2.length) (y:=y)
 have hl:=zjy w.2.2.2.2.2.2.2.1 w.2.2.2.2.2.2.2.2 w.2.2.2.2.2.2.2.1.2.2.length
 simp only [Option.bind_some]
 generalize wrU w.2.2.2.2.2.2.2.1 w.2.2.2.2.2.2.2.2 w.2.2.2.2.2.2.2.1.2.2.length=W at *
 have:=z1s (S:=List Prb) (R:=Option (List Prb)) (L:=fun m i q=>zfk k m (W.length:Int) i q W w (fun q_7=>some q_7)) (b:=W.length) (st:=fun i=>(W.take i).map (pbT w.2.2.2.2.2.2.2.1)) (e:=some (W.map (pbT w.2.2.2.2.2.2.2.1))) ?_ ?_ (n:=k) (by omega)
 ·simpa using this
 ·intro m i hi
  have hlt:(i:Int)<(W.length:Int):=by omega
  have hw:=zd (i:=i) (by omega)
  have hg:W[i]?=some W[i]:=List.getElem?_eq_getElem hi
  obtain ⟨y0,y1⟩:=hm W[i] (List.getElem_mem hi)
  have hga:w.2.2.2.2.2.2.2.1.2.2[(W[i]).toNat]?=some w.2.2.2.2.2.2.2.1.2.2[(W[i]).toNat]:=List.getElem?_eq_getElem y1
  have ht:=zq6 hk (zun h hga)
  have hpb:pbT w.2.2.2.2.2.2.2.1 W[i]=(5,(z3v [w.2.2.2.2.2.2.2.1.2.2[(W[i]).toNat].1,w.2.2.2.2.2.2.2.1.2.2[(W[i]).toNat].2.1],[115,104,105,102,116])):=by unfold pbT; rw [hga]
  have hL:(((W.take i).map (pbT w.2.2.2.2.2.2.2.1)).length+1)*40≤LIM:=by unfold LIM; rw [List.length_map,List.length_take]; omega
  simp only [zfk,hlt,decide_true,if_true,Int.natCast_nonneg,Int.toNat_natCast,hi,and_self,hg,Option.bind_some,y0,hga,ht,List.length_singleton,hL,hw,z19j (pbT w.2.2.2.2.2.2.2.1) hg,hpb]
 ·intro m
  simp only [zfk,Int.lt_irrefl,decide_false,Bool.false_eq_true,if_false,List.take_length]
theorem z19k {x:Pha} (h:z3x x=true) (p:List Int):(z7o x p).length≤24:=by
 obtain ⟨_,_,p3,_⟩:=zhb h
 unfold z7o
 rw [List.length_map]
 exact Nat.le_trans (zjy _ _ _) p3
theorem z19l {α:Type} (f:α→Nat) (B:Nat):∀ l:List α,(∀ x∈l,f x≤B)→z1h f l≤l.length*B
 | [],_=>by simp [z1h]
 | x::l,h=>by
  have h1:=z19l f B l fun y hy=>h y (List.mem_cons_of_mem _ hy)
  have h2:=h x (List.mem_cons_self)
  rw [zdp,List.length_cons,Nat.add_mul]
  omega
theorem z1sz {x:Pha} (h:z3x x=true) (p:List Int):z2v (z7o x p)≤100000:=by
 have hl:=z19k h p
 have hs:z1h z5s (z7o x p)≤(z7o x p).length*600:=by
  refine z19l _ _ _ fun y hy=>?_
  unfold z7o at hy
  obtain ⟨j,_,rfl⟩:=List.mem_map.1 hy
  unfold pbT
  cases hg:x.2.2[j.toNat]? with
  | none=>simp [z5s]
  | some a =>
   have:=(zq4 (zun h hg)).1
   simp only [z5s,List.length_cons,List.length_nil]
   omega
 unfold z2v
 omega
theorem zuo (a b:List Prb):z2v (a++b)=z2v a+z2v b:=by
 unfold z2v
 rw [z1ql,List.length_append]
 omega
theorem z1t0 {k:Nat} (hk:KK≤k) {w:Wrk} (hs:smallW w) (hf:w.2.2.2.2.2.1.length≤1048576) (hc:w.2.2.2.2.2.2.1.length≤1048576):∃ L:List Prb,(z7m k w=true→zog k w=some L)∧zmy k w=some (if z7m k w=true then (L,0) else ([],1))∧L.length≤1000∧z2v L≤300000:=by
 have hK:=zg
 obtain ⟨j,rfl⟩:∃ j,k=j+5:=⟨k-5,by omega⟩
 unfold zmy zsc
 rw [z1rk hk hs]
 cases h:z7m (j+5) w
 ·exact ⟨[],by simp,by simp,by simp,by simp [z2v,z1h]⟩
 ·have hn:=z19a h
  obtain ⟨L1,s1,s2,s3,s4⟩:=z1sq hk hs h
  have r1:=z1sm hk hs.sh hn.1 hn.2.2.2.1
  have r2:=z1sn hk hs.sh hn.1 hn.2.2.2.1
  have r3:=z19c hk hs.sh hn.1 hn.2.2.2.1
  have r4:=z1so hk hs.sh hn.1 hn.2.2.2.1
  have f1:=z1qt hk hn.2.2.2.2.1 hf hc
  have f2:=z1qu hk hn.2.2.2.2.1 hf hc
  have f3:=z1qv w.2.2.2.2.1 w.2.2.2.2.2.1 w.2.2.2.2.2.2.1
  have f4:=z1ss w.2.2.2.2.2.1 w.2.2.2.2.2.2.1 hn.2.2.2.2.1
  have p1:=z1sx hk hn.2.2.2.2.2.1 hn.2.2.2.2.2.2
  have p2:=z1sy hk hn.2.2.2.2.2.1 hn.2.2.2.2.2.2
  have p3:=z19k hn.2.2.2.2.2.1 w.2.2.2.2.2.2.2.2
  have p4:=z1sz hn.2.2.2.2.2.1 w.2.2.2.2.2.2.2.2
  generalize z7n w.1 w.2.2.2.1=L2 at *
  generalize z9v w.2.2.2.2.1 w.2.2.2.2.2.1 w.2.2.2.2.2.2.1=L3 at *
  generalize z7o w.2.2.2.2.2.2.2.1 w.2.2.2.2.2.2.2.2=L4 at *
  have hL:=z1p
  refine ⟨((L1++L2)++L3)++L4,fun _=>?_,?_,by simp only [List.length_append]; omega,by rw [zuo,zuo,zuo]; omega⟩
  ·unfold zog
   rw [s1]
   simp only [Option.bind_some]
   rw [if_pos (by simp only [List.length_nil]; omega),r1]
   simp only [Option.bind_some]
   rw [if_pos (by omega),f1]
   simp only [Option.bind_some]
   rw [if_pos (by simp only [List.length_append]; omega),p1]
   simp only [Option.bind_some]
   rw [if_pos (by simp only [List.length_append]; omega)]
  ·have w1:z6 (0+1)=1:=zf (by omega) (by omega)
   have w2:z6 (1+1)=2:=zf (by omega) (by omega)
   have w3:z6 (2+1)=3:=zf (by omega) (by omega)
   have w4:z6 (3+1)=4:=zf (by omega) (by omega)
   have t0:z3i (j+5) (j+5) [44,45,46,47] 4 0 ([]:List Prb) w (fun q_8=>some (q_8,0))=z3i (j+5) (j+4) [44,45,46,47] 4 1 (([]:List Prb)++L1) w (fun q_8=>some (q_8,0)):=by
    show (zim (j+5) w).bind (fun r_4=>if (List.length ([]:List Prb)+r_4.length)*40≤LIM then z3i (j+5) (j+4) [44,45,46,47] 4 (z6 (0+1)) (([]:List Prb)++r_4) w (fun q_8=>some (q_8,0)) else none)=_
    rw [s2,Option.bind_some,if_pos (by simp only [List.length_nil,List.length_append]; omega),w1]
   have t1:z3i (j+5) (j+4) [44,45,46,47] 4 1 (([]:List Prb)++L1) w (fun q_8=>some (q_8,0))=z3i (j+5) (j+3) [44,45,46,47] 4 2 ((([]:List Prb)++L1)++L2) w (fun q_8=>some (q_8,0)):=by
    show (zis (j+5) w).bind (fun r_4=>if (List.length (([]:List Prb)++L1)+r_4.length)*40≤LIM then z3i (j+5) (j+3) [44,45,46,47] 4 (z6 (1+1)) ((([]:List Prb)++L1)++r_4) w (fun q_8=>some (q_8,0)) else none)=_
    rw [r2,Option.bind_some,if_pos (by simp only [List.length_nil,List.length_append]; omega),w2]
   have t2:z3i (j+5) (j+3) [44,45,46,47] 4 2 ((([]:List Prb)++L1)++L2) w (fun q_8=>some (q_8,0))=z3i (j+5) (j+2) [44,45,46,47] 4 3 (((([]:List Prb)++L1)++L2)++L3) w (fun q_8=>some (q_8,0)):=by
    show (ziv (j+5) w).bind (fun r_4=>if (List.length ((([]:List Prb)++L1)++L2)+r_4.length)*40≤LIM then z3i (j+5) (j+2) [44,45,46,47] 4 (z6 (2+1)) (((([]:List Prb)++L1)++L2)++r_4) w (fun q_8=>some (q_8,0)) else none)=_
    rw [f2,Option.bind_some,if_pos (by simp only [List.length_nil,List.length_append]; omega),w3]
   have t3:z3i (j+5) (j+2) [44,45,46,47] 4 3 (((([]:List Prb)++L1)++L2)++L3) w (fun q_8=>some (q_8,0))=z3i (j+5) (j+1) [44,45,46,47] 4 4 ((((([]:List Prb)++L1)++L2)++L3)++L4) w (fun q_8=>some (q_8,0)):=by
    show (zix (j+5) w).bind (fun r_4=>if (List.length (((([]:List Prb)++L1)++L2)++L3)+r_4.length)*40≤LIM then z3i (j+5) (j+1) [44,45,46,47] 4 (z6 (3+1)) ((((([]:List Prb)++L1)++L2)++L3)++r_4) w (fun q_8=>some (q_8,0)) else none)=_
    rw [p2,Option.bind_some,if_pos (by simp only [List.length_nil,List.length_append]; omega),w4]
   have t4:z3i (j+5) (j+1) [44,45,46,47] 4 4 ((((([]:List Prb)++L1)++L2)++L3)++L4) w (fun q_8=>some (q_8,0))=some (((L1++L2)++L3)++L4,0):=rfl
   show (z3i (j+5) (j+5) [44,45,46,47] 4 0 [] w (fun q_8=>some (q_8,0))).bind _=_
   rw [t0,t1,t2,t3,t4]
   rfl
theorem z1t1 {k:Nat} (hk:KK≤k) {w:Wrk} (hs:smallW w) (hf:w.2.2.2.2.2.1.length≤1048576) (hc:w.2.2.2.2.2.2.1.length≤1048576):∃ b,zne k w=some b∧zmz k w=some b:=by
 obtain ⟨L,h1,h2,_,_⟩:=z1t0 hk hs hf hc
 unfold zne zmz
 rw [z1rj hk hs,h2]
 cases h:z7m k w
 ·exact ⟨false,by simp,by simp⟩
 ·rw [h1 h]
  exact ⟨decide ((L.length:Int)=0),by simp,by simp⟩
theorem z1t2 {e0 e1 e2 e3 e4 e5 e6 e7 e8 e9 e10 e11:TypeId} (a0:Wrk) (f0:InR (.st (.pr (.st (.pr (.st (.sl e0 (.sl e1 (.int .i64)))) (.pr (.int .i64) (.pr (.sl e2 (.int .i64)) (.sl e3 (.st (.pr (.int .i64) (.pr (.int .i64) (.pr (.int .i64) (.sl e4 (.int .i64))))))))))) (.pr (.int .i64) (.pr (.sl e5 (.int .i64)) (.pr (.sl e6 (.int .i64)) (.pr (.st (.pr (.int .i64) (.pr (.int .i64) (.pr (.int .i64) (.sl e7 (.st (.pr (.int .i64) (.pr (.int .i64) (.int .i64))))))))) (.pr (.sl e8 (.int .i64)) (.pr (.sl e9 (.int .i64)) (.pr (.st (.pr (.int .i64) (.pr (.int .i64) (.sl e10 (.st (.pr (.int .i64) (.pr (.int .i64) (.int .i64)))))))) (.sl e11 (.int .i64))))))))))) a0):∃ k:Nat,znd k a0=some true:=by
 have hk:=Nat.le_refl KK
 refine ⟨KK,?_⟩
 have q0:=z1rv hk (a:=a0) (left:=1048576) (by omega) (by omega) f0
 unfold znd
 rw [q0]
 by_cases c0:(z2g a0:Int)≤1048576
 case neg=>rw [if_neg c0]; simp only [Option.bind_some]; rw [decide_eq_true (by omega),if_pos rfl]
 rw [if_pos c0]; simp only [Option.bind_some]
 rw [decide_eq_false (by omega),if_neg (by simp)]
 have b0:z2g a0≤10000000000:=by omega
 have hs:=z1rw (w:=a0) (by omega)
 have e:z2g a0=z1r a0.1+a0.2.2.1.length+a0.2.2.2.1.length+a0.2.2.2.2.1.2.2.2.length+a0.2.2.2.2.2.1.length+a0.2.2.2.2.2.2.1.length+a0.2.2.2.2.2.2.2.1.2.2.length+a0.2.2.2.2.2.2.2.2.length:=rfl
 obtain ⟨b,h1,h2⟩:=z1t1 hk hs (by omega) (by omega)
 simp only [z1s8 hk b0,Option.bind_some,z1sl,h1,h2,z1sk hk b0,decide_true,beq_self_eq_true,Bool.not_true,Bool.false_eq_true,if_false]
end Go.Proofs.YtfinlkoplekgkaaGreatDoor.Ev
